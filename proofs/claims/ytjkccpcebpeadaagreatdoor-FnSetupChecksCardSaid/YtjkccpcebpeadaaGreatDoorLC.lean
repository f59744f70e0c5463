/-
  Plain laws: the checks of a block with their slacks: one check, all checks.
-/
import Derived.Test.YtjkccpcebpeadaaGreatDoorLB
import Derived.Test.YtjkccpcebpeadaaGreatDoorLA
import Derived.Test.YtjkccpcebpeadaaGreatDoorSxSort
import Derived.Test.YtjkccpcebpeadaaGreatDoorM
import Derived.Test.YtjkccpcebpeadaaGreatDoorE1
namespace Go.Proofs.YtjkccpcebpeadaaGreatDoor
set_option linter.unusedVariables false
set_option linter.unusedSimpArgs false
open Go Go.Sx
theorem ZL2 {c:Zq} (h:GX c=2/\(ZqX c 2<->¬ZqX c 3)\/GX c=3/\¬ZqX c 3) (s:Zo8 c) (e:(Ge c).length<=8):ZIy c=some (ZJK c)/\ZI0 c=some (ZJK c)/\(ZJK c=0\/ZJK c=1):=by
 have H:GX c=2->ZI0 c=some (if tr (ZqX c 3)=true then 1 else 0):=λf=>by
  unfold ZI0;rw[Qu,Uc f,QF (l:=Ge c) (show Len (Ge c) by unfold Len;omega) (λ_ a=>¬K9 a=3) (bad:=(1:Int)) (good:=0) (step:=λv=>ZIz c v.1)
   (λk a m b _=>by
    show(_->ZIz c (k:Int)=_)/\(_->ZIz c (k:Int)=_);unfold ZIz;rw[Qe,Zv,m,Bq];constructor
    ·intro q
     rw[Ue q]
    ·intro q
     rw[Uc (Uz q)])
   (λ_=>by
    show ZIz c ((Ge c).length:Int)=_;unfold ZIz;rw[Ue (Ui _)])]
  by_cases q:ZqX c 3
  ·obtain⟨a,m,b⟩:=id q
   obtain⟨j,d⟩:=UA.1 m;rw[ZR q,Uc rfl,Y7 (λz=>z j a d b)]
  ·rw[ZT q,Ue (by decide),Xr (show ZeM (Ge c) (λ_ a=>¬K9 a=3)from λk a m b=>q ⟨a,Ud m,b⟩)]
 rcases h with⟨f,Z⟩|⟨g,Z⟩
 ·rw[H f]
  unfold ZIy ZJK;rw[Qu,Uc f,ZeR c 2 s,Bq];by_cases q:ZqX c 3
  ·rw[Ue (λz=>Z.1 ((Xf _).1 z) q),ZR q,Uc q,Uc rfl]
   exact⟨rfl,rfl,.inr rfl⟩
  ·rw[Uc (ZR (Z.2 q)),ZT q,Ue q,Ue (show ¬GX c=3 by omega),Ue (show ¬(false=true) by decide)]
   exact⟨rfl,rfl,.inl rfl⟩
 ·unfold ZIy ZI0 ZJK
  rw[Qu,Qu,Uc g,Ue Z,Uc g];exact⟨rfl,rfl,.inr rfl⟩
theorem ZLa {d:Ze} (H:Few d) {i:Nat} {x:Zp} (Z:(K4 d)[i]?=some x) (b:0<(Gu x).length:=by omega):ZIT d (i:Int) 0=some (fst d i:Int):=by
 have a:=YT H;have e:=ZtG H Z b;rw[Zoq d _ _ H]at e;injection e with e
 unfold ZIT;rw[Xm _ H,Bq,ZIx (l:=ZB d) (f:=((i:Int),(0:Int),())) (show (ZB d).length<=_ by omega) (λq=>decide (q.1=(i:Int))&&decide (q.2.1=(0:Int))) (λq _=>by
  unfold ZIE;show(if q.1=(i:Int)then some (decide (q.2.1=(0:Int)))else some false)=_;by_cases h:q.1=(i:Int)
  ·rw[Uc h,UJ h,KE]
  ·rw[Ue h,decide_eq_false h,Bool.false_and]),Bq]
 rw[show((0:Nat):Int)=0 from rfl,K2]at e;rw[e]
section
variable {b:Zc} {s:Site} {i k:Nat} {x:Zp} {c:Zq} {a:ZL}
def ZL0 (b:Zc) (i:Nat) (a:ZL) (s:Site):Int:=2*((fst (K3 b) i:Int)+Gn a)+s.2.2
noncomputable def ZLZ (b:Zc) (i:Nat) (a:ZL) (c:Zq):Int:=2*((fst (K3 b) i:Int)+Gi a)+ZJK c
theorem ZI5.fits (h:Xh b) (q:ZI5 b s i k x c a):fst (K3 b) i+(Gu x).length<=(ZB (K3 b)).length:=by
 obtain⟨B,j⟩:=ZiU q.inst;rw[j,Uh,Uh,ZfY];unfold fst;omega
theorem ZI5.edge (h:Xh b) (q:ZI5 b s i k x c a):ZIy c=some (ZJK c)/\ZI0 c=some (ZJK c)/\(ZJK c=0\/ZJK c=1) :=
 ZL2 q.holds (ZzE (h.sm.1.1.2 c (Ud q.cell))) q.ok.2.2.1.1
theorem ZI5.ZMM (h:Xh b) (q:ZI5 b s i k x c a):0<=ZL0 b i a s/\ZL0 b i a s<(QU b:Int):=by
 have:=q.fits h;have:=q.from';have:=q.s3;have:=q.pins;have:=nN b;unfold ZL0;omega
theorem ZI5.ZML (h:Xh b) (q:ZI5 b s i k x c a):0<=ZLZ b i a c/\ZLZ b i a c<(QU b:Int):=by
 have:=q.fits h;have:=q.from';have:=(q.edge h).2.2;have:=q.pins;have:=nN b;unfold ZLZ;omega
variable {v:ZG}
theorem ZI5.ZLr (h:Xh b) (H:VOk b v) (q:ZI5 b s i k x c a):ZII v (mkC s)=some (ZL0 b i a s,ZLZ b i a c):=by
 have f:=h.ok.1.few;have d:=q.fits h;have e:=q.from';have g:=q.s3;have j:=q.pins;have l:=Zzv f i;have F:=q.edge h;have m:=q.ok.2.1.2.1;unfold ZII;rw[H.block,show HA (mkC s)=(i:Int)from q.s1,show HB (mkC s)=(k:Int)from q.s2,show Hz (mkC s)=s.2.2 from rfl,Zv,q.inst,Bq,Qt q.c0 q.cell,Bq,Zv,q.arc,Bq,ZLa f q.inst,Bq,F.1,Bq];rw[QP (n:=(fst (K3 b) i:Int)+Gn a),QP (n:=(fst (K3 b) i:Int)+Gi a),Yy (n:=2*((fst (K3 b) i:Int)+Gn a)),Yy (n:=2*((fst (K3 b) i:Int)+Gi a)),QP,QP];rfl
theorem ZI5.ZLy (h:Xh b) (q:ZI5 b s i k x c a):ZJg b (mkL s)=some (ZL0 b i a s,ZLZ b i a c):=by
 have f:=h.ok.1.few;have d:=q.fits h;have H:=q.from';have g:=q.s3;have l:=q.pins;have m:=Zzv f i;have F:=q.edge h;have o:=q.ok.2.1.2.1;have e1:=ZtG f q.inst (j:=(Gn a).toNat);have e:=ZtG f q.inst (j:=(Gi a).toNat);rw[show((Gn a).toNat:Int)=Gn a by omega]at e1;rw[show((Gi a).toNat:Int)=Gi a by omega]at e;unfold ZJg;rw[show atI (mkL s) (0:Int)=some (i:Int)from by rw[<-q.s1];rfl,Bq,Zv,q.inst,Bq,Qt q.c0 q.cell,Bq,show atI (mkL s) (1:Int)=some (k:Int)from by rw[<-q.s2];rfl,Bq,Zv,q.arc,Bq,show atI (mkL s) (2:Int)=some s.2.2 from rfl,Bq,e1,Bq,e,Bq,F.2.1,Bq];rw[Yy (n:=2*((fst (K3 b) i:Int)+Gn a)),Yy (n:=2*((fst (K3 b) i:Int)+Gi a)),QP,QP];rfl
theorem ZI5.ZL9 (h:Xh b) (p:VOk b v) {t:Zr} (o:Zji (QU b) t) (R:Zhl) (H:ZI5 b s i k x c a) :
  (ZIw v t R (mkC s)=some (0,false)/\ZI1 b t (mkL s)=some false)\/
  ∃z,ZIw v t R (mkC s)=some (z,true)/\ZI1 b t (mkL s)=some true/\ZJp b t R (mkL s)=some z:=by
 have S:=H.ZMM h;have O:=H.ZML h;have C:=H.ZLr h p;have g:=H.ZLy h;obtain⟨d,w⟩:∃d:Nat,ZL0 b i a s=(d:Int):=⟨(ZL0 b i a s).toNat,by omega⟩;obtain⟨q,P⟩:∃q:Nat,ZLZ b i a c=(q:Int):=⟨(ZLZ b i a c).toNat,by omega⟩;rw[w,P]at C g;obtain⟨X,a1,w1,r1,r2,u⟩:=Zs8 o (k:=d);obtain⟨K,L,w2,F,J,Q⟩:=Zs8 o (k:=q);unfold ZIw ZI1;rw[C,g,Bq,Bq];dsimp only;rw[r1,Bq,Bq];by_cases f:X=true;rotate_left
 ·rw[Ue f,Ue f]
  exact .inl ⟨rfl,rfl⟩
 rw[Uc f,Uc f,F,Bq,Bq];by_cases G:K=true;rotate_left
 ·rw[Ue G]
  exact .inl ⟨rfl,by rw[Bool.eq_false_iff.2 G]⟩
 rw[Uc G];have n:=H.from';have M:=H.ok.2.2.1.1;have D:k<(Ge c).length:=(Ub.1 H.arc).1;have B:i<(K4 (K3 b)).length:=(Ub.1 H.inst).1;have y:=h.ok.1.few.insts;have j:atI (K4 (K3 b)) (i:Int)=some x:=by rw[Zv];exact H.inst
 have ea:atI (Ge c) (k:Int)=some a:=by rw[Zv];exact H.arc
 have e1:ZIS b (i:Int) (k:Int)=some (a,true):=by
  unfold ZIS;rw[show ZIL (K4 (K3 b))=some ((K4 (K3 b)).length:Int) from rfl,Bq,Qs,QP,Bq,Uc (ZR (by omega)),j,Bq,Qt H.c0 H.cell,Bq,
   show ZI3 (Ge c)=some ((Ge c).length:Int) from rfl,Bq,Qs,QP,Bq,Uc (ZR (by omega)),ea,Bq,ZnK,Bq,Uc (ZR H.kind)]
 have N:(Gy a).length=2:=n.2.2.2.1;obtain⟨T,I,E⟩:=Zjv (l:=Gy a) (i:=s.2.2) (by have:=H.s3;omega) (by have:=H.s3;omega);have A:Jk T:=(n.2.2.2.2 T (Ud E)).1;obtain⟨r,Y,Z,_⟩:=look_eq A (Ga w1) (Ga w2) (m:=1) (.inr rfl);right;rw[p.block,show HA (mkC s)=(i:Int)from H.s1,show HB (mkC s)=(k:Int)from H.s2,e1,Bq];rw[show atI (((a,true):ZL×Bool).fst.snd.snd.snd.snd.fst) (Hz (mkC s))=some T from I,Bq,u,Bq,Q,Bq,Y,Bq];unfold ZJp;rw[show atI (mkL s) (0:Int)=some (i:Int)from by rw[<-H.s1];rfl,Bq,j,Bq,Qt H.c0 H.cell,Bq,show atI (mkL s) (1:Int)=some (k:Int)from by rw[<-H.s2];rfl,Bq,ea,Bq,g,Bq,show atI (mkL s) (2:Int)=some s.2.2 from rfl,Bq,I,Bq];dsimp only;rw[u,Bq,Q,Bq,Z,Bq];rw[r2,J,Bq,Bq,Bq,Bq];by_cases e:K9 a=4
 ·rw[Uc (show a.fst=4 from e),Uc e]
  exact⟨_,rfl,by rw[G],rfl⟩
 ·rw[Ue (show ¬a.fst=4 from e),Ue e]
  exact⟨_,rfl,by rw[G],rfl⟩
end
noncomputable def slk (v:ZG) (t:Zr) (R:Zhl) (s:Site):List Zmj:=match ZIw v t R (mkC s)with
 |some (z,true)=>[(s.1,s.2.1,s.2.2,z,())]
 |_=>[]
theorem ZL4 (v:ZG) (t:Zr) (R:Zhl) (s:Site):(slk v t R s).length<=1:=by
 unfold slk;split<;>simp
theorem ZLB {b:Zc} (h:Xh b) {v:ZG} (n:VOk b v) {t:Zr} (w:Zji (QU b) t) (R:Zhl) :
  ∃l,ZIJ v t R=some l/\ZJG b t R=some l/\l.length<=224:=by
 have D:=ZLK h;have part:∀j,(cat (λ(_:Nat) s=>slk v t R s) 0 ((sites b).take j)).length<=224:=λj=>by
  have:=VJ (f:=λ(_:Nat) s=>slk v t R s) (c:=1) (l:=(sites b).take j) (m:=0) (λ_ s _=>ZL4 v t R s);rw[Uo]at this;omega
 refine⟨cat (λ(_:Nat) s=>slk v t R s) 0 (sites b),?_,?_,by have:=part (sites b).length;rwa [Ur]at this⟩
 ·unfold ZIJ
  rw[n.block,ZK8 h,Bq];refine Xx (l:=sites b) (λ_ s=>slk v t R s) [] (step:=λu=>ZIH v t R ((sites b).map mkC) u.1 u.2.1) (λj s q p=>?_) ?_
  ·have g:=part j
   obtain⟨i,k,x,c,a,d⟩:=ZLJ h (Ud q);have S:=d.ZL9 h n w R;simp only[Uq,ZIH,U5,show(j:Int)<((sites b).length:Int)from by omega,Uk,Zv,UL,q,Kl,Bq];generalize cat (λ(_:Nat) s=>slk v t R s) 0 ((sites b).take j)=A at g;unfold slk;rcases S with⟨Z,_⟩|⟨z,Z,_,_⟩
   ·rw[Z,Bq,Ue (by decide),Xd,Um]
   ·rw[Z,Bq,Uc rfl,Zk (by simp only[Uf,Ug];omega),Xd]
    rfl
  ·simp only[Uq,ZIH,U5,Ui,Uj]
 ·unfold ZJG
  rw[ZLe h,Bq];have key:YM (Zt (λu=>ZI2 b t R u.1 u.2.1 u.2.2.1) (([]:List Zmj),(0:Int),(sites b).map mkL,())) (λr=>r=cat (λ(_:Nat) s=>slk v t R s) 0 (sites b)):=by
   refine YM.loop (λu=>0<=u.2.1/\u.2.1<=((sites b).length:Int)/\u.2.2.1=(sites b).map mkL/\u.1=cat (λ(_:Nat) s=>slk v t R s) 0 ((sites b).take u.2.1.toNat)) (λu=>(((sites b).length:Int)-u.2.1).toNat) ⟨U7 _,by dsimp only;omega,rfl,rfl⟩ ?_;rintro⟨out,j,l,⟨⟩⟩ ⟨j0,B,J,y⟩;dsimp only at j0 B J y;subst J y;show YM (ZI2 b t R (cat (λ(_:Nat) s=>slk v t R s) 0 ((sites b).take j.toNat)) j ((sites b).map mkL)) _;unfold ZI2;have g:=part j.toNat;rw[U5];refine YM.ite (λp=>?_) (λp=>?_)
   ·obtain⟨s,q⟩:∃s,(sites b)[j.toNat]?=some s:=⟨_,Ua (by omega)⟩
    obtain⟨i,k,x,c,a,d⟩:=ZLJ h (Ud q);have S:=d.ZL9 h n w R;have Q:((sites b).map mkL)[j.toNat]?=some (mkL s):=by rw[UL,q];rfl
    have H:List.set ((sites b).map mkL) j.toNat (mkL s)=(sites b).map mkL:=Zog Q;rw[Qt j0 Q,Bq,H,QP];have N:cat (λ(_:Nat) s=>slk v t R s) 0 ((sites b).take (j+1).toNat)=cat (λ(_:Nat) s=>slk v t R s) 0 ((sites b).take j.toNat)++slk v t R s:=by
     rw[show(j+1).toNat=j.toNat+1 by omega,ZhI q]
    generalize cat (λ(_:Nat) s=>slk v t R s) 0 ((sites b).take j.toNat)=A at g N;rcases S with⟨Z,o⟩|⟨z,Z,o,C⟩
    ·rw[o,Bq,Ue (by decide)]
     refine .ret ⟨⟨by dsimp only;omega,by dsimp only;omega,rfl,?_⟩,by dsimp only;omega⟩;dsimp only;rw[N];unfold slk;rw[Z,Um]
    ·rw[o,Bq,Uc rfl,show atI (mkL s) (0:Int)=some s.1 from rfl,show atI (mkL s) (1:Int)=some s.2.1 from rfl,show atI (mkL s) (2:Int)=some s.2.2 from rfl,Bq,Bq,Bq,C,Bq]
     refine .guard (by simp only[Uf,Ug];omega) (.ret ⟨⟨by dsimp only;omega,by dsimp only;omega,rfl,?_⟩,by dsimp only;omega⟩);dsimp only;rw[N];unfold slk;rw[Z]
   ·refine .ret (show cat (λ(_:Nat) s=>slk v t R s) 0 ((sites b).take j.toNat)=_ from ?_)
    rw[show j.toNat=(sites b).length by omega,Ur]
  obtain⟨r,e,rfl⟩:=key;exact e
theorem Zu4 {g:ZM} {nodes:List Int} {N:Nat} (hN:(N:Int)=2*((ZG.ZB (ZM.view g)).length:Int)) (a4:N<=1000) (P:InN N (ZG.links (ZM.view g))) (a3:(ZG.links (ZM.view g)).length<=6000)
  (a6:(ZM.live g).length=(ZG.links (ZM.view g)).length) (W:∀a∈nodes,0<=a/\a<(N:Int)) (a7:nodes.length<=1048576) :
  ∃r,XJ g nodes ()=some r/\r.length=N/\∀(a:Nat) (b:Bool),r[a]?=some b->(b=true<->Rch (ZG.links (ZM.view g)) (ZM.live g) (λa=>a∈nodes) (a:Int)):=by
 generalize z:ZG.links (ZM.view g)=L at *;unfold XJ YP;rw[show Yt (ZG.ZB (ZM.view g))=some ((ZG.ZB (ZM.view g)).length:Int) from rfl,Bq,Bq,<-hN,QP (n:=(N:Int)),QQ,QQ,QQ,QQ];refine Zdq (l:=L) (λk v=>v.1=(k:Int)/\ZDA N L (ZM.live g) k v.2.1) _ ⟨rfl,by simp,λx Z=>by
  grind,λa x Z c=>by
  grind⟩ ?_ ?_
 ·rintro k l ⟨i,f,⟨⟩⟩ q hk ⟨D,s⟩
  simp only at D s;subst D;have V:=P l (Ud q);have t:(ZM.live g)[k]?=some (ZM.live g)[k]:=Ua (by omega);generalize (ZM.live g)[k]=bl at t;have H:=s.len;obtain⟨x,G,a0⟩:=Zfk (l:=f) V.1.1;have d:f[(Gc l).toNat]?=some x:=by
   have:=G;unfold atI at this;grind
  have a8:=s.short x a0;simp only[XY,z,show(k:Int)<(L.length:Int)from by omega,Uk,Zv,q,ZiI,t,G,Bq];by_cases o:bl=true
  ·rw[Uc o,Zk (by simp;omega),Xd]
   subst o;refine⟨_,rfl,rfl,by simp[H],?_,?_⟩
   ·intro y e
    rcases Ke e with e|rfl
    ·have:=s.short y e;omega
    ·simp;omega
   ·intro a y e c
    simp only at e;rw[UX]at e;split at e
    ·rename_i ea
     rw[Qe]at e;injection e with e
     subst e;rw[Uu,Ut,s.mem _ x d c];grind
    ·rename_i ea
     rw[s.mem a y e c];grind
  ·rw[Ue o,Xd]
   have C:bl=false:=by simpa using o
   subst C;refine⟨_,rfl,rfl,H,λy e=>by have:=s.short y e;omega,λa y e c=>?_⟩;rw[s.mem a y e c];grind
 ·rintro⟨i,f,⟨⟩⟩ ⟨D,s⟩
  simp only at D s;subst D;have H:=s.len;simp only[XY,z,Ui,Uj];unfold Xa;rw[QQ,Zk (by simp;omega),Bq];have u:∀(a:Nat) (x:List Int),f[a]?=some x->∀c,c∈x<->Live L (ZM.live g) (a:Int) c:=by
   intro a x Z c;rw[s.mem a x Z c];constructor
   ·rintro⟨j,l',M,h2,h3,O,h5⟩;exact⟨j,l',h2,h3,O,h5⟩
   ·rintro⟨j,l',h2,h3,O,h5⟩;grind
  have a9:=ZCZ f (List.replicate N false) L.length s.short;have a1:(1+L.length)*f.length<=6001*1000:=Kk (by omega) (by omega);have:=Ze5 (σ:=List Int×List (List Int)×List Bool×Unit) (ρ:=(Int×List (List Int)×Unit)⊕List Bool) (step:=λv=>XW v.1 v.2.1 v.2.2.1)
   (λv=>v.2.1=f/\v.2.2.1.length=N/\v.1.length+wt f v.2.2.1<=8000000/\
    (∀a∈v.1,0<=a/\a<(N:Int)/\Rch L (ZM.live g) (λa=>a∈nodes) a)/\
    (∀(a:Nat),v.2.2.1[a]?=some true->Rch L (ZM.live g) (λa=>a∈nodes) (a:Int))/\
    (∀a∈nodes,a∈v.1\/v.2.2.1[a.toNat]?=some true)/\
    (∀ (a:Nat) (c:Int),v.2.2.1[a]?=some true->Live L (ZM.live g) (a:Int) c->c∈v.1\/v.2.2.1[c.toNat]?=some true))
   (λv=>v.1.length+wt f v.2.2.1)
   (λr=>∃r',r=.inr r'/\r'.length=N/\∀(a:Nat) (b:Bool),r'[a]?=some b->(b=true<->Rch L (ZM.live g) (λa=>a∈nodes) (a:Int)))
   (v:=([]++nodes,f,List.replicate (Int.toNat (N:Int)) false,()))
   ⟨rfl,by simp,by grind,λa m=>by
     simp only[Uq] at m;exact ⟨(W a m).1,(W a m).2,.base m⟩,λa m=>(by
     grind),λa m=>.inl (by simpa using m),λa c m _=>(by
     grind)⟩
   (by
    rintro⟨op,w,p,⟨⟩⟩ ⟨e1,J,e3,K,e5,e6,e7⟩;simp only at e1 J e3 K e5 e6 e7;subst e1;simp only[XW];cases op with
    |nil =>
     rw[Ue (by simp)];refine .inr ⟨_,rfl,p,rfl,J,λa b o=>?_⟩;constructor
     ·grind
     ·intro h
      have A:∀c:Int,Rch L (ZM.live g) (λa=>a∈nodes) c->(0<=c/\p[c.toNat]?=some true):=by
       intro c hc;refine hc.sub (T:=λc=>0<=c/\p[c.toNat]?=some true) (λa m=>⟨(W a m).1,?_⟩) (λa c m q=>?_)
       ·grind
       ·obtain⟨k,l,M,_,_,O⟩:=id q
        have Q:=P l (Ud M);have a5:Live L (ZM.live g) (a.toNat:Int) c:=by rw[show(a.toNat:Int)=a by omega];exact q
        grind
      have:=(A (a:Int) h).2
      simp_all
    |cons X R =>
     obtain⟨E,b2,Y⟩:=K X (by simp);have U:List.take (Int.toNat (((X::R).length:Nat):Int)-Int.toNat (1:Int)) (List.drop (Int.toNat (1:Int)) (X::R))=R:=by simp
     obtain⟨b0,B,_⟩:=Zfk (l:=p) E;have S:p[X.toNat]?=some b0:=by
      have:=B;unfold atI at this;grind
     rw[Uc (by grind),show atI (X::R) (0:Int)=some X from rfl,Bq,Zk (by grind),QQ,B,Bq];simp only[U];simp only[Uf]at e3;by_cases o:b0=true
     ·subst o
      rw[Uc rfl];refine .inl ⟨_,rfl,⟨rfl,J,by simp only;omega,λa m=>K a (by simp[m]),e5,λa m=>?_,λa c m q=>?_⟩,by grind⟩;all_goals grind
     ·have C:b0=false:=by simpa using o
      subst C;obtain⟨x2,I,a2⟩:=Zfk (l:=w) E;have d:w[X.toNat]?=some x2:=by
       have:=I;unfold atI at this;grind
      have b1:=ZzJ w p X.toNat x2 d S;have F:(X.toNat:Int)=X:=by omega
      rw[Ue o,I,Bq,QQ,Zog d];have up:∀a:Nat,p[a]?=some true->(p.set X.toNat true)[a]?=some true:=by
       intro a m;rw[UX];split;all_goals grind
      have at0:(p.set X.toNat true)[X.toNat]?=some true:=by grind
      refine .inl ⟨_,rfl,⟨rfl,by simp[J],by grind,λa m=>?_,λa m=>?_,λa m=>?_,λa c m q=>?_⟩,by grind⟩
      ·rcases Uu.1 m with m|m
       ·exact K a (by simp[m])
       ·have q:=(u _ x2 d a).1 m
        rw[F]at q;obtain⟨k,l,M,_,_,O⟩:=id q;have Q:=P l (Ud M);exact⟨by omega,by omega,.step Y q⟩
      ·simp only at m
       rw[UX]at m;split at m;all_goals grind
      ·rcases e6 a m with h|h
       all_goals grind
      ·simp only at m
       rw[UX]at m;split at m
       ·grind
       ·rcases e7 a c m q with h|h
        all_goals grind)
  grind
def ZcR {α:Type} (key:α->Int) (l:List α):Prop:=l.Pairwise λx y=>key x<key y
theorem key_eq {α:Type} {key:α->Int}:∀{a b:List α},ZcR key a->ZcR key b->(∀x,x∈a<->x∈b)->a=b
 |[],[],_,_,_=>rfl
 |[],y::b,_,_,h=>by have:=(h y).2 UK;cases this
 |x::a,[],_,_,h=>by have:=(h x).1 UK;cases this
 |x::a,y::b,m,H,h=>by
  obtain⟨a1,A⟩:=KS.1 m;obtain⟨b1,N⟩:=KS.1 H;have E:x=y:=by
   rcases Us.1 ((h x).1 UK)with e|q
   ·exact e
   ·rcases Us.1 ((h y).2 UK)with e|Q
    ·exact e.symm
    ·have:=a1 y Q
     have:=b1 x q;omega
  subst E;rw[key_eq A N λz=>?_];constructor
  ·intro S
   rcases Us.1 ((h z).1 (UP _ S))with e|q
   ·have:=a1 z S;rw[e]at this;omega
   ·exact q
  ·intro S
   rcases Us.1 ((h z).2 (UP _ S))with e|q
   ·have:=b1 z S;rw[e]at this;omega
   ·exact q
def Zad {α:Type} (key:α->Int) (k:Int):List α->Nat
 |[]=>0
 |x::l=>if key x<k then Zad key k l+1 else 0
theorem Zl0 {α:Type} (key:α->Int) (k:Int):∀l:List α,Zad key k l<=l.length
 |[]=>UE _
 |x::l=>by
  unfold Zad;split
  ·have:=Zl0 key k l
   rw[Uf];omega
  ·exact UM _
theorem Zj7 {α:Type} (key:α->Int) (k:Int):∀(l:List α) (x:α),x∈l.take (Zad key k l)->key x<k
 |[],x,h=>by simp at h
 |y::l,x,h=>by
  unfold Zad at h;split at h
  ·rename_i q
   rw[List.take_succ_cons]at h;rcases Us.1 h with rfl|h
   ·exact q
   ·exact Zj7 key k l x h
  ·rw[Ki]at h;cases h
theorem ZiT {α:Type} {key:α->Int} {k:Int}:∀{l:List α},ZcR key l->∀x,x∈l.drop (Zad key k l)->k<=key x
 |[],_,x,h=>by simp at h
 |y::l,H,x,h=>by
  obtain⟨d,f⟩:=KS.1 H;unfold Zad at h;split at h
  ·rw[List.drop_succ_cons]at h
   exact ZiT f x h
  ·rename_i q
   rw[KL]at h;rcases Us.1 h with rfl|h
   ·omega
   ·have:=d x h;omega
def Zms {α:Type} (key:α->Int) (l:List α) (a b:α):List α:=l.take (Zad key (key a) l)++a::b::l.drop (Zad key (key a) l)
variable {α:Type} {key:α->Int} {l:List α}
theorem Zu1 {a b:α} (c:ZcR key l) (j:key a<key b) (h:∀x∈l,key x<key a\/key b<key x):ZcR key (Zms key l a b):=by
 have o:=Zj7 key (key a) l;have i:=ZiT (k:=key a) c;have H:∀x∈l.drop (Zad key (key a) l),key b<key x:=λx Z=>by
  have d:=i x Z;rcases h x (List.mem_of_mem_drop Z)with q|q
  ·omega
  ·exact q
 unfold Zms ZcR;refine List.pairwise_append.2 ⟨c.sublist (List.take_sublist _ _),List.Pairwise.cons ?_ (List.Pairwise.cons H (c.sublist (List.drop_sublist _ _))),?_⟩
 ·intro x Z
  rcases Us.1 Z with rfl|Z
  ·exact j
  ·have:=H x Z;omega
 ·intro x Z y e
  have d:=o x Z;rcases Us.1 e with rfl|e
  ·exact d
  ·rcases Us.1 e with rfl|e
   ·omega
   ·have:=H y e;omega
theorem ZdL {a b x:α}:x∈Zms key l a b<->x=a\/x=b\/x∈l:=by
 unfold Zms;rw[Uu,Us,Us];constructor
 ·rintro(h|h|h|h)
  ·exact .inr (.inr (List.mem_of_mem_take h))
  ·exact .inl h
  ·exact .inr (.inl h)
  ·exact .inr (.inr (List.mem_of_mem_drop h))
 ·rintro(h|h|h)
  ·exact .inr (.inl h)
  ·exact .inr (.inr (.inl h))
  ·rw[<-Kz (Zad key (key a) l) l]at h
   rcases Uu.1 h with q|q
   ·exact .inl q
   ·exact .inr (.inr (.inr q))
theorem Zn6 {α:Type} {key:α->Int} {k:Int}:∀{l:List α},ZcR key l->((∃x∈l,key x=k)<->∃x,l[Zad key k l]?=some x/\key x=k)
 |[],_=>by simp[Zad]
 |y::l,h=>by
  obtain⟨d,f⟩:=KS.1 h;unfold Zad;split
  ·rename_i q
   rw[U3,<-Zn6 f];constructor
   ·rintro⟨x,Z,e⟩
    rcases Us.1 Z with rfl|Z
    ·omega
    ·exact⟨x,Z,e⟩
   ·rintro⟨x,Z,e⟩
    exact⟨x,UP _ Z,e⟩
  ·rename_i q
   rw[KG];constructor
   ·rintro⟨x,Z,e⟩
    rcases Us.1 Z with rfl|Z
    ·exact⟨x,rfl,e⟩
    ·have:=d x Z;omega
   ·rintro⟨x,Z,e⟩
    injection Z with Z
    subst Z;exact⟨_,UK,e⟩
abbrev RR (L:List Zn) (lv:List Bool) (a c:Int):Prop:=Rch L lv (λx=>x=a) c
def NT (L:List Zn) (lv:List Bool) (v:Int):Prop:=∃c,Live L lv c v/\RR L lv v c
section
variable {N:Nat} {L:List Zn} {lv:List Bool}
theorem RR.refl (a:Int):RR L lv a a:=.base rfl
variable {a c:Int}
theorem RR.trans {b:Int} (d:RR L lv a b) (f:RR L lv b c):RR L lv a c:=by
 induction f with
 |base e=>rw[e];exact d
 |step _ q i=>exact .step i q
theorem ZsM (n:InN N L) (h:Live L lv a c):(0<=a/\a<(N:Int))/\(0<=c/\c<(N:Int)):=by
 obtain⟨k,l,d,_,rfl,rfl⟩:=h;exact n l (Ud d)
variable {v:Int}
theorem NT.inn (n:InN N L) (h:NT L lv v):0<=v/\v<(N:Int):=by
 obtain⟨c,q,_⟩:=h;exact(ZsM n q).2
theorem ZwR {u:Int} (d:RR L lv u v) (f:RR L lv v u) (y:u≠v:=by omega):NT L lv u:=by
 cases f with
 |base e=>exact absurd e y
 |@step c _ p q=>exact⟨c,q,d.trans p⟩
theorem Zsr {S:List Int} (s:∀c∈S,∀a,Live L lv a c->a∈S) (h:RR L lv v c) (q:c∈S):v∈S:=by
 induction h with
 |base e=>rw[<-e];exact q
 |step _ l i=>exact i (s _ q _ l)
variable {out:List Int}
theorem Zuh (h:Rdy lv L out v) (q:Live L lv a v):a∈out:=by
 obtain⟨k,l,d,f,rfl,i⟩:=q;exact h k l d (by rw[f];rfl) i
theorem ZnQ {v:Int}:∀(r out:List Int),Zmy lv L out r->(∀c∈out,∀a,Live L lv a c->a∈out)->v∈r->∃S:List Int,v ∉ S/\(∀c∈S,∀a,Live L lv a c->a∈S)/\∀a,Live L lv a v->a∈S
 |[],_,_,_,h=>by cases h
 |u::r,out,i,y,h=>by
  by_cases e:v=u
  ·subst e
   exact⟨out,i.1.2.1,y,λa m=>Zuh i.1.2.2 m⟩
  ·refine ZnQ r (out++[u]) i.2 (λc q a m=>?_) (by
    rcases Us.1 h with h|h
    ·exact absurd h e
    ·exact h)
   rcases Uu.1 q with q|q
   ·exact Uu.2 (.inl (y c q a m))
   ·rw[Ut.1 q]at m
    exact Uu.2 (.inl (Zuh i.1.2.2 m))
theorem Zrb {α:Type} {p q:α->Bool}:∀{l:List α},(∀x∈l,p x=true->q x=true)->(∃x∈l,q x=true/\p x=false)->l.countP p<l.countP q
 |[],_,⟨x,Z,_⟩=>by cases Z
 |a::l,h,⟨x,Z,d,f⟩=>by
  have Q:l.countP p<=l.countP q:=List.countP_mono_left λx Z=>h x (UP _ Z);rw[K1,K1];rcases Us.1 Z with rfl|Z
  ·rw[d,f]
   simp only[Uk,UN,Uj];omega
  ·have i:=Zrb (λx Z=>h x (UP _ Z)) ⟨x,Z,d,f⟩
   have m:=h a UK;by_cases c:p a=true
   ·rw[Uc c,Uc (m c)];omega
   ·rw[Ue c];omega
theorem descent {P:Int->Prop} (p:∀v,P v->(0<=v/\v<(N:Int))/\∃c,P c/\Live L lv c v) (j:∀v,¬NT L lv v):∀(m:Nat) (v:Int),P v->(ZjH N).countP (λu=>tr (RR L lv u v))<m->False
 |0,_,_,h=>Nat.not_lt_zero _ h
 |m+1,v,a,h=>by
  obtain⟨E,c,H,l⟩:=p v a;refine descent p j m c H (UD (Zrb (λx _ Z=>?_) ⟨v,Zhw.2 E,ZR (RR.refl v),ZT λq=>j v ⟨c,l,q⟩⟩) (Nat.lt_succ_iff.1 h));exact ZR (Rch.step ((Xf _).1 Z) l)
theorem ZvR (h:∀(k:Nat) (x:Zn),L[k]?=some x->cw lv out v k x=0):Zir lv L out v=0:=by
 have:∀k,k<=L.length->Zir lv (L.take k) out v=0:=by
  intro k;induction k with
  |zero=>intro _;rfl
  |succ k i =>
   intro H;have Z:L[k]?=some (L[k]'(by omega)):=Ua _;rw[ZbR Z,i (by omega),h k _ Z]
 have f:=this L.length (UE _);rw[Ur]at f;exact f
theorem ZrM (n:Nat):(ZjH n).Nodup:=by
 unfold ZjH;rw[List.nodup_iff_pairwise_ne,List.pairwise_map];refine List.Pairwise.imp ?_ (List.nodup_iff_pairwise_ne.1 List.nodup_range);intro a b h e;exact h (by omega)
theorem ZnD (n:InN N L) (j:∀v,¬NT L lv v):∀(m:Nat) (out:List Int),out.length+m=N->(ZrH lv L N m out).2=true
 |0,_,_=>rfl
 |m+1,out,Q=>by
  unfold ZrH;cases e:nxt lv L N out with
  |some v=>exact ZnD n j m (out++[(v:Int)]) (by rw[Uh];simp only[Uf,Ug];omega)
  |none =>
   exfalso;unfold nxt at e;rw[List.find?_range_eq_none]at e;have b:∃v:Int,(0<=v/\v<(N:Int))/\v ∉ out:=Uz λq=>by
    have:=ZkU (ZjH N) out (ZrM N) (λx Z=>Uz λz=>q ⟨x,Zhw.1 Z,z⟩);rw[Zl2]at this;omega
   obtain⟨v,a⟩:=b;refine descent (P:=λv=>(0<=v/\v<(N:Int))/\v ∉ out) (λv a=>⟨a.1,?_⟩) j _ v a (Nat.lt_succ_self _);refine Uz λq=>?_;have h:=e v.toNat (by omega);have i:(v.toNat:Int)=v:=by omega
   rw[i]at h;have S:Zir lv L out v=0:=ZvR λk x Z=>by
    unfold cw;split
    ·rename_i H
     split
     ·rename_i t
      split
      ·rfl
      ·rename_i r
       have c:lv[k]?=some true:=by
        cases f:lv[k]? with
        |none=>rw[f]at H;cases H
        |some z=>rw[f]at H;exact Ka some H
       exact absurd ⟨Gc x,⟨(n x (Ud Z)).1,r⟩,k,x,Z,c,rfl,t⟩ q
     ·rfl
    ·rfl
   rw[UJ a.2,UJ S]at h;cases h
end
variable {b:Zc}
theorem Zhu (h:Xh b):InN (QU b) (Zm b):=λl q=>by
 have:=ZfT h q;have e:=nN b;omega
variable {r:List Int}
theorem ZuW (h:Xh b) (o:(ZaC b r).2=true) (v:Int):¬NT (Zm b) (XG b r) v:=by
 intro a;obtain⟨c,q,E⟩:=a;have k:=ZwY o;have A:=(ZsM (Zhu h) q).2;obtain⟨S,s1,s2,s3⟩:=ZnQ (v:=v) _ [] k.ord (λc H=>by cases H) (k.all v A.1 A.2);exact s1 (Zsr s2 E (s3 c q))
theorem Zpk (h:Xh b) (j:∀v,¬NT (Zm b) (XG b r) v):(ZaC b r).2=true :=
 ZnD (Zhu h) j (QU b) [] (by simp)
structure Zvm (N:Nat) (L:List Zn) (lv:List Bool) (v:Int) (m:List Int):Prop where
 mem:∀c,c∈m<->((0<=c/\c<(N:Int))/\RR L lv v c/\RR L lv c v)
 inc:ZcR (λc:Int=>c) m
variable {N:Nat} {L:List Zn} {lv:List Bool} {v:Int} {m:List Int}
theorem Zvm.unique {M:List Int} (h:Zvm N L lv v m) (H:Zvm N L lv v M):m=M :=
 key_eq h.inc H.inc λx=>(h.mem x).trans (H.mem x).symm
def ZbO (N:Nat) (L:List Zn) (lv:List Bool) (v:Int):List (List Int)->Prop
 |[]=>∀u,0<=u->u<v->¬NT L lv u
 |m::_=>∃w,(0<=w/\w<v)/\NT L lv w/\(∀u,0<=u->u<w->¬NT L lv u)/\Zvm N L lv w m
variable {r:List (List Int)}
theorem ZbO.skip (h:ZbO N L lv v r) (W:r=[]->¬NT L lv v):ZbO N L lv (v+1) r:=by
 cases r with
 |nil =>
  intro u k d;by_cases e:u=v
  ·rw[e];exact W rfl
  ·exact h u k (by omega)
 |cons m t =>
  obtain⟨w,d,f,g,i⟩:=h;exact⟨w,⟨d.1,by omega⟩,f,g,i⟩
theorem ZbO.add (h:ZbO N L lv v r) (k:0<=v) (W:NT L lv v) (Q:Zvm N L lv v m):ZbO N L lv (v+1) (r++[m]):=by
 cases r with
 |nil=>exact⟨v,⟨k,by omega⟩,W,h,Q⟩
 |cons a t =>
  obtain⟨w,d,f,g,i⟩:=h;exact⟨w,⟨d.1,by omega⟩,f,g,i⟩
theorem ZbO.unique {R:List (List Int)} (h:ZbO N L lv v r) (H:ZbO N L lv v R):(r=[]/\R=[])\/∃m t t',r=m::t/\R=m::t':=by
 cases r with
 |nil =>
  cases R with
  |nil=>exact .inl ⟨rfl,rfl⟩
  |cons M t' =>
   obtain⟨w,d,f,_⟩:=H;exact absurd f (h w d.1 d.2)
 |cons m t =>
  obtain⟨w,d,f,b,i⟩:=h;cases R with
  |nil=>exact absurd f (H w d.1 d.2)
  |cons M t' =>
   obtain⟨w',g,G,s,a⟩:=H;have e:w=w':=by
    rcases Int.lt_trichotomy w w' with q|q|q
    ·exact absurd f (s w d.1 q)
    ·exact q
    ·exact absurd G (b w' g.1 q)
   subst e;have:=i.unique a;subst this;exact .inr ⟨m,t,t',rfl,rfl⟩
theorem Zvm.two (n:InN N L) (h:Zvm N L lv v m) (k:0<=v/\v<(N:Int)):NT L lv v<->(1<m.length\/Live L lv v v):=by
 have f:v∈m:=(h.mem v).2 ⟨k,RR.refl v,RR.refl v⟩;constructor
 ·rintro⟨c,q,E⟩
  by_cases e:c=v
  ·rw[e]at q;exact .inr q
  ·left
   have x:c∈m:=(h.mem c).2 ⟨(ZsM n q).1,E,.step (RR.refl c) q⟩
   match m,f,x with
   |[a],g,i=>exact absurd ((Ut.1 i).trans (Ut.1 g).symm) e
   |a::b::t,_,_=>simp only[Uf];omega
 ·rintro(l|q)
  ·have d:m.Nodup:=by
    rw[List.nodup_iff_pairwise_ne];exact List.Pairwise.imp (λ{a b} (h:a<b) (e:a=b)=>by omega) h.inc
   obtain⟨a,j,H⟩:=nodup_other' v d l;obtain⟨_,r1,r2⟩:=(h.mem a).1 j;exact ZwR r1 r2 (Ne.symm H)
  ·exact⟨v,q,RR.refl v⟩
where
 nodup_other' (v:Int):∀{m:List Int},m.Nodup->1<m.length->∃a,a∈m/\a≠v
  |[],_,h=>by simp at h
  |[_],_,h=>by simp at h
  |a::b::r,hn,_=>by
   by_cases q:a=v
   ·exact⟨b,by simp,λe=>by grind⟩
   ·exact⟨a,by simp,q⟩
def cf (l:List Bool):Nat:=l.countP (λb=>!b)
theorem Zzs:∀(l:List Bool) (i:Nat),l[i]?=some false->cf (l.set i true)+1=cf l
 |[],_,h=>by simp at h
 |b::l,0,h=>by simp at h;subst h;simp[cf]
 |b::l,i+1,h=>by
  have:=Zzs l i (by simpa using h);unfold cf at this ⊢;simp only[List.set_cons_succ,K1];omega
variable {l:List Bool} {i:Int}
theorem bat {b:Bool} (h:atI l i=some b) (k:0<=i):l[i.toNat]?=some b:=by
 unfold atI at h;rw[Uc k]at h;exact h
theorem ZCv {i:Nat} (a:Nat) (h:l[a]?=some true):(l.set i true)[a]?=some true:=by
 rw[UX];split
 ·have:=(Ub.1 h).1
  rw[Qe]
 ·exact h
def Closed (L:List Zn) (lv:List Bool) (k:Nat) (s:List Bool):Prop:=∀(j:Nat) (l:Zn),j<k->L[j]?=some l->lv[j]?=some true->s[(Gc l).toNat]?=some true->s[(Gf l).toNat]?=some true
structure ZC2 (N:Nat) (L:List Zn) (lv:List Bool) (S:Int->Prop) (k:Nat) (s0:List Bool) (ch:Bool) (s:List Bool):Prop where
 len:s.length=N
 snd:∀a:Nat,s[a]?=some true->Rch L lv S (a:Int)
 up:∀a:Nat,s0[a]?=some true->s[a]?=some true
 still:ch=false->s=s0/\Closed L lv k s0
 less:cf s+(if ch=true then 1 else 0)<=cf s0
theorem round_eq {S:Int->Prop} (P:InN N L) (R:L.length<=6000) (Y:lv.length=L.length) {s0:List Bool} (M:s0.length=N) (Q:∀a:Nat,s0[a]?=some true->Rch L lv S (a:Int)) :
  ∃C s,Zt (λv=>XQ L lv true v.1 v.2.1 v.2.2.1) (false,(0:Int),s0,())=some (.inl (C,s,()))/\ZC2 N L lv S L.length s0 C s:=by
 obtain⟨r,O,C,s,rfl,w⟩:=Zdq (l:=L) (ρ:=(Bool×List Bool×Unit)⊕List Bool) (step:=λv=>XQ L lv true v.1 v.2.1 v.2.2.1) (v:=(false,(0:Int),s0,()))
  (λk v=>v.2.1=(k:Int)/\ZC2 N L lv S k s0 v.1 v.2.2.1) (λr=>∃C s,r=.inl (C,s,())/\ZC2 N L lv S L.length s0 C s)
  ⟨rfl,M,Q,λa h=>h,λ_=>⟨rfl,λj l W=>by omega⟩,by simp⟩
  (by
   rintro k l ⟨C,i,s,⟨⟩⟩ x hk ⟨p,c⟩;simp only at p c;subst p;have V:=P l (Ud x);have G:=c.len;have t:lv[k]?=some lv[k]:=Ua (by omega);generalize lv[k]=B at t;obtain ⟨X,q,_⟩:=Zfk (l:=s) V.1.1;obtain ⟨I,u,_⟩:=Zfk (l:=s) V.2.1;have f:=bat q V.1.1;have g:=bat u V.2.1;simp only[XQ,show (k:Int)<(L.length:Int) from by omega,Uk,Zv,x,t,q,u,Bq];have U:(B=true->X=true->I=true)->ZC2 N L lv S (k+1) s0 C s:=λD=>⟨c.len,c.snd,c.up,λA=>by
    obtain⟨e1,K⟩:=c.still A;refine⟨e1,λj Z W d b H=>?_⟩;by_cases E:j=k
    ·subst E
     rw[x]at d;injection d with d;subst d
     rw[t]at b;injection b with b
     subst e1;rw[f]at H;injection H with H
     rw[g,D b H]
    ·exact K j Z (by omega) d b H,c.less⟩
   by_cases n:B=true
   ·subst n
    by_cases w:X=true
    ·subst w
     by_cases J:I=true
     ·subst J
      simp only[Uk];exact⟨_,rfl,by simp only;rw[Xd],U (λ_ _=>rfl)⟩
     ·have z:I=false:=by simpa using J
      subst z;simp only[Uk,UN,Uj];have T:=Zzs s (Gf l).toNat g;have F:=c.less;refine⟨_,rfl,by simp only;rw[Xd],by simp[G],λa m=>?_,λa m=>ZCv a (c.up a m),λh=>(by cases h),?_⟩
      ·simp only at m
       rw[UX]at m;split at m
       ·rename_i e
        rw[<-e,show((Gf l).toNat:Int)=Gf l by omega];have H:=c.snd _ f;rw[show((Gc l).toNat:Int)=Gc l by omega]at H;exact .step H ⟨k,l,x,t,rfl,rfl⟩
       ·exact c.snd a m
      ·simp only[Uk]
       have:(if C=true then 1 else 0)<=1:=by split<;>omega
       omega
    ·have y:X=false:=by simpa using w
     subst y;simp only[Uk,UN,Uj];exact⟨_,rfl,by simp only;rw[Xd],U (λ_ h=>by cases h)⟩
   ·have o:B=false:=by simpa using n
    subst o;simp only[Uk,UN,Uj];exact ⟨_,rfl,by simp only;rw[Xd],U (λh=>by cases h)⟩)
  (by
   rintro ⟨C,i,s,⟨⟩⟩ ⟨p,c⟩;simp only at p c;subst p;simp only[XQ,Ui,Uj];exact ⟨_,rfl,C,s,rfl,c⟩)
 exact⟨C,s,O,w⟩
theorem ZpF (D:N<=1000) (u:InN N L) (n:L.length<=6000) (o:lv.length=L.length) {node:Int} (W:0<=node/\node<(N:Int)) :
  ∃r,J6 (N:Int) L lv node true=some r/\r.length=N/\∀(a:Nat) (b:Bool),r[a]?=some b->(b=true<->Rch L lv (λa=>a=node) (a:Int)):=by
 unfold J6;obtain⟨x,Z,_⟩:=Zfk (l:=List.replicate (Int.toNat (N:Int)) false) W.1 (by simp;exact W.2);rw[QQ,QQ,QQ,QQ,Z,Bq];have p:(node.toNat:Int)=node:=by omega
 have:=Ze5 (σ:=Bool×List Bool×Unit) (ρ:=List Bool) (step:=λv=>Vq L lv true v.1 v.2.1)
  (λv=>v.2.1.length=N/\(∀a:Nat,v.2.1[a]?=some true->Rch L lv (λa=>a=node) (a:Int))/\v.2.1[node.toNat]?=some true/\(v.1=false->Closed L lv L.length v.2.1))
  (λv=>2*cf v.2.1+(if v.1=true then 1 else 0))
  (λr=>r.length=N/\∀(a:Nat) (b:Bool),r[a]?=some b->(b=true<->Rch L lv (λa=>a=node) (a:Int)))
  (v:=(true,List.set (List.replicate (Int.toNat (N:Int)) false) (Int.toNat node) true,()))
  ⟨by simp,λa m=>(by
   simp only at m;rw[UX]at m;split at m
   ·rename_i e;rw[<-e];exact .base p
   ·rw[Kc]at m
    split at m
    ·cases m
    ·cases m),(by simp only;rw[UF (by simp;omega)]),λh=>(by cases h)⟩
  (by
   rintro⟨y,s,⟨⟩⟩ ⟨e1,E,j,t⟩;simp only at e1 E j t;simp only[Vq];by_cases q:y=true
   ·rw[Uc q]
    obtain⟨C,S,d,f⟩:=round_eq u n o e1 E;rw[d];refine .inl ⟨_,rfl,⟨f.len,f.snd,f.up _ j,λh=>?_⟩,?_⟩
    ·obtain⟨e,H⟩:=f.still h
     simp only;rw[e];exact H
    ·have F:=f.less
     simp only[q,Uk];by_cases i:C=true
     ·simp only[i,Uk]at F ⊢;omega
     ·simp only[i,Uj]at F ⊢;omega
   ·rw[Ue q]
    have H:=t (by simpa using q);refine .inr ⟨s,rfl,e1,λa b w=>?_⟩;constructor
    ·intro h;subst h;exact E a w
    ·intro h
     have g:∀c:Int,Rch L lv (λa=>a=node) c->(0<=c/\s[c.toNat]?=some true):=by
      intro c q;refine q.sub (T:=λc=>0<=c/\s[c.toNat]?=some true) (λa m=>by subst m;exact⟨W.1,j⟩) (λa c m I=>?_);obtain⟨k,l,d,z,A,B⟩:=I;have G:=u l (Ud d);refine⟨by omega,?_⟩;rw[<-B];exact H k l (Ub.1 d).1 d z (by rw[A];exact m.2)
     have:=(g (a:Int) h).2;rw[UG,w] at this;injection this)
 exact this
def ZjX (L:List Zn):List Zn:=L.map (λl=>(Gf l,Gc l,GH l,l.2.2.2))
theorem Zp7 (L:List Zn):(ZjX L).length=L.length:=U5 ..
variable {α:Type}
theorem ZzQ {β:Type} (f:α->β) (l:List α) (i:Int):atI (l.map f) i=(atI l i).map f:=by
 unfold atI;grind
theorem Zu3 (n node:Int) (L:List Zn) (lv:List Bool):J6 n L lv node false=J6 n (ZjX L) lv node true:=by
 have e:∀(c:Bool) (k:Int) (Y:List Bool),XQ L lv false c k Y=XQ (ZjX L) lv true c k Y:=by
  intro c k Y;unfold XQ;rw[Zp7];by_cases h:k<(L.length:Int)
  ·rw[Uc h,Uc h]
   unfold ZjX;rw[ZzQ];cases atI L k with
   |none=>rfl
   |some x=>rfl
  grind
 have e1:∀(c:Bool) (l0:List Bool),Vq L lv false c l0=Vq (ZjX L) lv true c l0:=by
  intro c l0;unfold Vq;simp only[e]
 unfold J6;simp only[e1]
variable {c:Int}
theorem ZrB {a:Int} (h:Live (ZjX L) lv a c):Live L lv c a:=by
 obtain⟨k,l,d,f,g,i⟩:=h;unfold ZjX at d;rw[UL,Ku]at d;obtain⟨x,Z,rfl⟩:=d;exact⟨k,x,Z,f,i,g⟩
theorem Zps {a:Int} (h:Live L lv c a):Live (ZjX L) lv a c:=by
 obtain⟨k,l,d,f,g,i⟩:=h;exact⟨k,_,by unfold ZjX;rw[UL,d];rfl,f,i,g⟩
theorem Zyr (h:InN N L):InN N (ZjX L):=λl q=>by
 unfold ZjX at q;obtain⟨x,Z,rfl⟩:=KQ.1 q;exact⟨(h x Z).2,(h x Z).1⟩
structure Scc (N:Nat) (L:List Zn) (lv:List Bool) (v:Int) (m:List Int):Prop where
 mem:∀c,c∈m<->((0<=c/\c<(N:Int))/\Rch L lv (λa=>a=v) c/\Rch (ZjX L) lv (λa=>a=v) c)
 nod:m.Nodup
 len:m.length<=N
 more:1<m.length\/∃(k:Nat) (l:Zn),L[k]?=some l/\lv[k]?=some true/\Gc l=v/\Gf l=v
 v0:0<=v/\v<(N:Int)
theorem ZsV (v:Int):∀{m:List Int},m.Nodup->1<m.length->∃a,a∈m/\a≠v
 |[],_,h=>by simp at h
 |[_],_,h=>by simp at h
 |a::b::r,W,_=>by
  by_cases q:a=v
  ·refine⟨b,by simp,λe=>?_⟩
   grind
  simp_all
theorem Scc.cell (h:Scc N L lv v m) {D:Int->Prop} (s:InN N L) (z:∀l∈L,GH l=1\/(D (Gc l)/\¬D (Gf l))) :
  ∃(k:Nat) (l:Zn),L[k]?=some l/\lv[k]?=some true/\GH l=1/\Gc l∈m/\Gf l∈m:=by
 apply Uz;intro u;have key:∀(a c:Int),Live L lv a c->a∈m->c∈m->D a/\¬D c:=by
  rintro a c ⟨k,l,d,j,rfl,rfl⟩ e n;grind
 have inn:∀{a c:Int},Live L lv a c->(0<=a/\a<(N:Int))/\(0<=c/\c<(N:Int)):=by
  rintro a c ⟨k,l,d,j,rfl,rfl⟩;exact s l (Ud d)
 have A:v∈m:=(h.mem v).2 ⟨h.v0,.base rfl,.base rfl⟩;rcases h.more with Q|⟨k,l,d,j,x,y⟩
 ·obtain⟨a,e,b⟩:=ZsV v h.nod Q
  obtain⟨_,o,p⟩:=(h.mem a).1 e;have r:=o;have R:=p;cases o with
  |base q=>exact b q
  |@step c _ w f =>
   have n:c∈m:=(h.mem c).2 ⟨(inn f).1,w,R.step (Zps f)⟩;have k1:=key _ _ f n e;cases p with
   |base q=>exact b q
   |@step J _ i g =>
    have H:=ZrB g;have t:J∈m:=(h.mem J).2 ⟨(inn H).2,r.step H,i⟩;grind
 grind
def Drv (b:Zc) (a:Int):Prop:=∃p,(ZB (K3 b))[(a/2).toNat]?=some p/\p.2.2.2.1=true
theorem ZuK (h:Xh b):∀l∈Zm b,GH l=1\/(Drv b (Gc l)/\¬Drv b (Gf l)):=by
 intro l H;unfold Zm at H;rcases Uu.1 H with H|H
 ·left
  obtain⟨i,x,E,Z⟩:=XZ.1 H;unfold ZlQ at Z;split at Z
  ·obtain⟨k,a,C,d⟩:=XZ.1 Z
   unfold Znm at d;obtain⟨p,n,rfl⟩:=KQ.1 d;rfl
  ·cases Z
 ·right
  obtain⟨v,w,A,Z⟩:=XZ.1 H;rw[Uw]at Z;have z:v<(Gp (K3 b)).length:=by
   have:=(Ub.1 A).1;have:=h.ok.2.1;omega
  obtain⟨q,y,B,m,t,_⟩:=Ztx h.ok.1 (Zkc h.sm).2.1 z;obtain⟨j,s,u,e⟩:=XZ.1 Z;have f:=Ud u;unfold Zae at f;obtain⟨k,x,o,G⟩:=XZ.1 f;have Q:s=(k:Int)/\¬x.2.2.2.1=true:=by
   unfold Zgs at G;grind
  have g:y.2.2.2.1=true:=by
   unfold Ztw at m;grind
  have two:∀c:Int,c=0\/c=1->Drv b (2*ZhL (K3 b) (v:Int)+c)/\¬Drv b (2*s+c):=λc D=>by
   refine⟨⟨y,?_,g⟩,λL=>?_⟩
   ·rw[t,show((2*(q:Int)+c)/2).toNat=q by omega]
    exact B
   ·obtain⟨p,n,r⟩:=L
    rw[Q.1,show((2*(k:Int)+c)/2).toNat=k by omega,o]at n;grind
  simp only[Us,UR,Kd]at e;rcases e with rfl|rfl
  ·exact two 0 (.inl rfl)
  ·exact two 1 (.inr rfl)
def ct (l:List Bool):Nat:=l.countP (λb=>b)
theorem Zzt:∀(l:List Bool) (i:Nat),l[i]?=some true->ct (l.set i false)+1=ct l
 |[],_,h=>by simp at h
 |b::l,0,h=>by simp at h;subst h;simp[ct]
 |b::l,i+1,h=>by
  have:=Zzt l i (by simpa using h);unfold ct at this ⊢;grind
theorem Zug:Rch (ZjX L) lv (λx=>x=v) c<->RR L lv c v:=by
 constructor
 ·intro h
  induction h with
  |base e=>rw[e];exact RR.refl _
  |step _ q i=>exact RR.trans (.step (RR.refl _) (ZrB q)) i
 ·intro h
  induction h with
  |base e=>exact .base e.symm
  |step _ q i=>exact RR.trans (L:=ZjX L) (.step (RR.refl _) (Zps q)) i
theorem Zy0 (m:L.length<=6000) (n:lv.length=L.length) (v:Int):YM (Zg7 L lv v) (λr=>r=true<->Live L lv v v):=by
 unfold Zg7;refine YM.loop (λs=>0<=s.1/\s.1<=6000/\∀(j:Nat) (l:Zn),(j:Int)<s.1->L[j]?=some l->lv[j]?=some true->Gc l=v->Gf l=v->False) (λs=>(6000-s.1).toNat) ⟨U7 _,by dsimp only;omega,λj l b=>by dsimp only at b;omega⟩ ?_;rintro⟨k,⟨⟩⟩ ⟨k0,k1,K⟩;dsimp only at k0 k1 K;show YM (ZeB L lv v k) _;unfold ZeB;have C:Wq (k+1)=k+1:=QP;have st:(∀l,L[k.toNat]?=some l->lv[k.toNat]?=some true->Gc l=v->Gf l=v->False)->∀(j:Nat) (l:Zn),(j:Int)<k+1->L[j]?=some l->lv[j]?=some true->Gc l=v->Gf l=v->False:=λW j l b d f g i=>by
  by_cases e:(j:Int)<k
  ·exact K j l e d f g i
  ·have c:j=k.toNat:=by omega
   subst c;exact W l d f g i
 simp only[C];refine YM.ite (λH=>?_) (λH=>.ret (show false=true<->_ from⟨λq=>(by cases q),λ⟨j,l,d,f,g,i⟩=>(K j l (by have:=(Ub.1 d).1;omega) d f g i).elim⟩));refine .at k0 (by omega) λx Z G=>?_;refine YM.ite (λt=>?_) (λh=>.ret ⟨⟨by dsimp only;omega,by dsimp only;omega,st λl _ f _ _=>?_⟩,by dsimp only;omega⟩)
 ·refine .at k0 H λl p R=>?_
  refine YM.ite (λd=>?_) (λd=>.ret ⟨⟨by dsimp only;omega,by dsimp only;omega,st λo e1 _ E _=>?_⟩,by dsimp only;omega⟩)
  ·refine YM.ite (λf=>?_) (λf=>.ret ⟨⟨by dsimp only;omega,by dsimp only;omega,st λo e1 _ _ a=>?_⟩,by dsimp only;omega⟩)
   ·exact .ret (show true=true<->_ from⟨λ_=>⟨k.toNat,l,R,by rw[G,t],d,f⟩,λ_=>rfl⟩)
   ·rw[R]at e1
    injection e1 with e1
    subst e1;exact f a
  ·rw[R]at e1
   injection e1 with e1
   subst e1;exact d E
 ·rw[G]at f
  injection f with f
  exact h f
def Zmh (L:List Zn) (lv:List Bool) (v:Int) (l:List Bool):Prop:=∀a:Nat,l[a]?=some true->∃u,(0<=u/\u<v)/\RR L lv u (a:Int)/\RR L lv (a:Int) u
theorem Zmh.mono (h:Zmh L lv v l):Zmh L lv (v+1) l:=λa m=>by
 obtain⟨u,d,f⟩:=h a m;exact⟨u,⟨d.1,by omega⟩,f⟩
theorem Zj4 (D:N<=1000) (B:InN N L) (H:L.length<=6000) (j:lv.length=L.length):YM (Zf5 (N:Int) L lv) (ZbO N L lv (N:Int)):=by
 unfold Zf5;refine .guard (by omega) (.guard (U7 _) (.guard (by omega) (.guard (by omega) ?_)));refine YM.loop (λs=>0<=s.2.1/\s.2.1<=(N:Int)/\(s.1.length:Int)<=s.2.1/\ZbO N L lv s.2.1 s.1/\s.2.2.1.length=N/\Zmh L lv s.2.1 s.2.2.1) (λs=>((N:Int)-s.2.1).toNat) ⟨U7 _,by dsimp only;omega,by grind,(by show ∀u:Int,0<=u->u<0->¬NT L lv u;intro u U d;omega),by simp,λa g=>by grind⟩ ?_;rintro⟨out,v,l0,⟨⟩⟩ ⟨i,i1,i2,I,S,A⟩;dsimp only at i i1 i2 I S A;show YM (ZdI (N:Int) L lv out v l0) _;unfold ZdI;have T:Wq (v+1)=v+1:=QP;refine YM.ite (λr=>?_) (λr=>.ret (show ZbO N L lv (N:Int) out from by rw[show(N:Int)=v by omega];exact I));refine .at i (by omega) λx hx G=>?_;refine YM.ite (λt=>?_) (λ_=>?_)
 ·rw[T]
  refine .ret ⟨⟨by dsimp only;omega,by dsimp only;omega,by dsimp only;omega,I.skip λe W=>?_,S,A.mono⟩,by dsimp only;omega⟩;rw[t]at G;obtain⟨u,X,Y,Z⟩:=A v.toNat G;rw[show(v.toNat:Int)=v by omega]at Y Z;subst e;exact I u X.1 X.2 (ZwR Y Z)
 obtain⟨r0,e0,a3,U⟩:=ZpF D B H j (node:=v) ⟨i,r⟩;obtain⟨r1,e1,a4,d⟩:=ZpF (L:=ZjX L) D (Zyr B) (by rw[Zp7];exact H) (by rw[Zp7];exact j) (node:=v) ⟨i,r⟩;rw[<-Zu3]at e1;rw[e0,Bq,e1,Bq];refine YM.loop (λs=>(0<=s.2.1/\s.2.1<=(N:Int)/\(s.1.length:Int)<=s.2.1)/\ZcR (λc:Int=>c) s.1/\(s.2.2.1.length=N/\Zmh L lv (v+1) s.2.2.1)/\∀c,c∈s.1<->((0<=c/\c<s.2.1)/\RR L lv v c/\RR L lv c v)) (λs=>((N:Int)-s.2.1).toNat)
  ⟨⟨U7 _,by dsimp only;omega,by grind⟩,(by show ZcR (λc:Int=>c) [];exact List.Pairwise.nil),⟨S,A.mono⟩,λc=>⟨λh=>(by cases h),λh=>by grind⟩⟩ ?_
 rintro⟨m,k,l,⟨⟩⟩ ⟨⟨j0,j1,j2⟩,w,⟨n,J⟩,p⟩;dsimp only at j0 j1 j2 w n p J;show YM (ZdH (N:Int) L lv out v r0 r1 m k l) _;unfold ZdH;have ek:Wq (k+1)=k+1:=QP;simp only[ek,T];refine YM.ite (λhk=>?_) (λhk=>?_)
 ·refine .at j0 (by omega) λx hx G=>?_
  have o:(k.toNat:Int)=k:=by omega
  have a0:=U k.toNat x G;rw[o]at a0;have skip:(¬(RR L lv v k/\RR L lv k v))->∀c,c∈m<->((0<=c/\c<k+1)/\RR L lv v c/\RR L lv c v):=λW c=>by
   rw[p c];constructor
   ·rintro⟨d,f⟩;exact⟨⟨d.1,by omega⟩,f⟩
   ·rintro⟨d,f⟩
    refine⟨⟨d.1,?_⟩,f⟩;by_cases e:c=k
    ·subst e;exact absurd f W
    ·omega
  refine YM.ite (λt=>?_) (λO=>?_)
  ·refine .at j0 (by omega) λy hy P=>?_
   have a1:=d k.toNat y P;rw[o,Zug]at a1;refine YM.ite (λR=>?_) (λQ=>?_)
   ·have b0:=a0.1 t
    have b1:=a1.1 R;refine .guard (by grind) ?_;refine .at j0 (by omega) λ_ _ _=>?_;refine .ret ⟨⟨⟨by dsimp only;omega,by dsimp only;omega,by simp_all⟩,?_,⟨by grind,λa g=>?_⟩,λc=>?_⟩,by dsimp only;omega⟩
    ·show ZcR (λc:Int=>c) (m++[k])
     refine List.pairwise_append.2 ⟨w,List.pairwise_singleton ..,λa g b hb=>?_⟩;rw[Ut.1 hb];exact((p a).1 g).1.2
    ·dsimp only at g
     rw[UX]at g;split at g
     ·rename_i e
      rw[show(a:Int)=k by omega];exact⟨v,⟨i,by omega⟩,b0,b1⟩
     ·exact J a g
    ·dsimp only
     rw[Uu,Ut,p c];constructor
     ·rintro(⟨d,f⟩|rfl)
      ·exact⟨⟨d.1,by omega⟩,f⟩
      ·exact⟨⟨j0,by omega⟩,b0,b1⟩
     ·rintro⟨d,f⟩
      by_cases e:c=k
      ·exact .inr e
      ·exact .inl ⟨⟨d.1,by omega⟩,f⟩
   ·exact .ret ⟨⟨⟨by dsimp only;omega,by dsimp only;omega,by dsimp only;omega⟩,w,⟨n,J⟩,skip λq=>Q (a1.2 q.2)⟩,by dsimp only;omega⟩
  ·exact .ret ⟨⟨⟨by dsimp only;omega,by dsimp only;omega,by dsimp only;omega⟩,w,⟨n,J⟩,skip λq=>O (a0.2 q.1)⟩,by dsimp only;omega⟩
 ·have F:k=(N:Int):=by omega
  have C:Zvm N L lv v m:=⟨λc=>by rw[p c,F],w⟩;have E:=C.two B ⟨i,r⟩;have a2:m.length<=N:=by omega
  refine YM.ite (λd=>?_) (λd=>?_)
  ·refine .guard (by grind) (.ret ⟨⟨by dsimp only;omega,by dsimp only;omega,by grind,I.add i (E.2 (.inl (by omega))) C,n,J⟩,by dsimp only;omega⟩)
  ·refine(Zy0 H j v).bind λq V=>?_
   refine YM.ite (λM=>?_) (λK=>?_)
   ·exact .guard (by grind) (.ret ⟨⟨by dsimp only;omega,by dsimp only;omega,by grind,I.add i (E.2 (.inr (V.1 M))) C,n,J⟩,by dsimp only;omega⟩)
   ·refine .ret ⟨⟨by dsimp only;omega,by dsimp only;omega,by dsimp only;omega,I.skip λ_ W=>?_,n,J⟩,by dsimp only;omega⟩
    rcases E.1 W with z|z
    ·omega
    ·exact K (V.2 z)
def ZlV (lv:List Bool) (m:List Int) (k:Nat) (x:Zn) (s:Int):Int:=if(lv[k]?).getD false=true/\GH x=1/\Gc x∈m/\Gf x∈m then(k:Int)else s
def lastOf (L:List Zn) (lv:List Bool) (m:List Int):Int:=XU (ZlV lv m) 0 L (-1)
def ZBC (L:List Zn) (lv:List Bool) (m:List Int) (k:Nat):Prop:=∃x,L[k]?=some x/\lv[k]?=some true/\GH x=1/\Gc x∈m/\Gf x∈m
variable {k:Nat} {x:Zn} {s:Int}
theorem Zrz (d:lv[k]?=some true) (f:GH x=1) (g:Gc x∈m) (i:Gf x∈m):ZlV lv m k x s=(k:Int):=by
 unfold ZlV;rw[Uc ⟨by rw[d];rfl,f,g,i⟩]
theorem ZiN (h:lv[k]?=some true->GH x=1->Gc x∈m->Gf x∈m->False):ZlV lv m k x s=s:=by
 unfold ZlV;rw[Ue];rintro⟨d,f,g,i⟩;refine h ?_ f g i;cases e:lv[k]? with
 |none=>rw[e]at d;cases d
 |some z=>rw[e]at d;exact Ka some d
theorem ZwJ {L:List Zn} {lv:List Bool} {m:List Int}:∀n,n<=L.length->(XU (ZlV lv m) 0 (L.take n) (-1)=-1/\∀k,k<n->¬ZBC L lv m k)\/∃k:Nat,XU (ZlV lv m) 0 (L.take n) (-1)=(k:Int)/\k<n/\ZBC L lv m k
 |0,_=>.inl ⟨by rw[Ki];rfl,λk h=>by omega⟩
 |n+1,W=>by
  have l:n<L.length:=by omega
  have Z:L[n]?=some (L[n]'l):=Ua l;generalize L[n]'l=x at Z;rw[Zcq Z];by_cases c:ZBC L lv m n
  ·obtain⟨y,e1,E,i,a,b⟩:=id c
   rw[Z]at e1;injection e1 with e1
   subst e1;exact .inr ⟨n,Zrz E i a b,by omega,c⟩
  ·rw[ZiN λd f g H=>c ⟨x,Z,d,f,g,H⟩]
   rcases ZwJ (L:=L) (lv:=lv) (m:=m) n (by omega)with⟨d,f⟩|⟨k,d,f,g⟩
   ·refine .inl ⟨d,λk j=>?_⟩
    by_cases e:k=n
    ·rw[e];exact c
    ·exact f k (by omega)
   ·exact .inr ⟨k,d,by omega,g⟩
theorem ZAm (h:∃k,ZBC L lv m k):∃k:Nat,lastOf L lv m=(k:Int)/\ZBC L lv m k:=by
 have:=ZwJ (L:=L) (lv:=lv) (m:=m) L.length (UE _);rw[Ur]at this;rcases this with⟨_,f⟩|⟨k,d,_,g⟩
 ·obtain⟨k,H⟩:=h
  obtain⟨x,Z,_⟩:=id H;exact absurd H (f k (Ub.1 Z).1)
 ·exact⟨k,d,g⟩
def Zkz (k:Nat) (x:Bool):List Int:=if x=true then[]else[(k:Int)]
def dead (lv:List Bool):List Int:=cat Zkz 0 lv
theorem Zrd (k:Nat) (x:Bool):(Zkz k x).length<=1:=by
 unfold Zkz;split<;>simp
theorem Znp (h:lv.length<=6000):Zt (λv=>Jw lv v.1 v.2.1) (([]:List Int),(0:Int),())=some (.inr (dead lv)):=by
 refine Xx (l:=lv) Zkz [] (step:=λv=>Jw lv v.1 v.2.1) (good:=.inr (dead lv)) (λk x Z H=>?_) ?_
 ·have d:=VJ (f:=Zkz) (c:=1) (l:=lv.take k) (m:=0) (λk x _=>Zrd k x)
  rw[Uo]at d;simp only[Uq,Jw,show(k:Int)<(lv.length:Int)from by omega,Uk,Zv,Z,Bq,Xd (show k<=1048576 by omega)];generalize cat Zkz 0 (lv.take k)=a at d;unfold Zkz;by_cases q:x=true
  ·rw[Uc q,Uc q,Um]
  ·rw[Ue q,Ue q,Zk (by simp only[Uf,Ug];omega)]
 ·simp only[Uq,Jw,Ui,Uj]
  rfl
theorem Zvm.scc (n:InN N L) (h:Zvm N L lv v m) (H:0<=v/\v<(N:Int)) (W:NT L lv v):Scc N L lv v m where
 mem c:=by rw[h.mem c,Zug]
 nod:=by
  rw[List.nodup_iff_pairwise_ne];exact List.Pairwise.imp (λ{a b} (h:a<b) (e:a=b)=>by omega) h.inc
 len:=by
  have d:m.Nodup:=by
   rw[List.nodup_iff_pairwise_ne];exact List.Pairwise.imp (λ{a b} (h:a<b) (e:a=b)=>by omega) h.inc
  have:=ZkU m (ZjH N) d (λx Z=>Zhw.2 ((h.mem x).1 Z).1);rw[Zl2]at this;exact this
 more:=by
  rcases(h.two n H).1 W with q|⟨k,l,f,g,i,j⟩
  ·exact .inl q
  ·exact .inr ⟨k,l,f,g,i,j⟩
 v0:=H
def Zge (N:Nat) (L:List Zn) (lv:List Bool) (m:List Int):Prop:=∃w,(0<=w/\w<(N:Int))/\NT L lv w/\(∀u,0<=u->u<w->¬NT L lv u)/\Zvm N L lv w m
theorem Zge.unique {M:List Int} (h:Zge N L lv m) (H:Zge N L lv M):m=M:=by
 have a:ZbO N L lv (N:Int) [m]:=h;have b:ZbO N L lv (N:Int) [M]:=H;rcases a.unique b with⟨e,_⟩|⟨x,t,t',e1,f⟩
 ·cases e
 ·injection e1 with e1
  injection f with f
  rw[e1,f]
theorem Zge.nt (h:Zge N L lv m):∃v,NT L lv v:=by
 obtain⟨w,_,f,_⟩:=h;exact⟨w,f⟩
open Classical in
noncomputable def ZAb (b:Zc) (r:List Int):List Int:=if h:∃m,Zge (QU b) (Zm b) (XG b r) m then Classical.choose h else[]
variable {r:List Int}
theorem Zp5 (h:Zge (QU b) (Zm b) (XG b r) m):ZAb b r=m:=by
 unfold ZAb;have Z:∃m,Zge (QU b) (Zm b) (XG b r) m:=⟨m,h⟩;rw[dif_pos Z];exact(Kj Z).unique h
noncomputable def Zq9 (b:Zc):Nat->List Int->List Int
 |0,r=>r
 |n+1,r=>match tr (∃v,NT (Zm b) (XG b r) v)with
  |true=>Zq9 b n (r++[lastOf (Zm b) (XG b r) (ZAb b r)])
  |false=>r
theorem ZzX (h:Xh b) (H:Zge (QU b) (Zm b) (XG b r) m):∃k,ZBC (Zm b) (XG b r) m k:=by
 obtain⟨w,d,f,_,i⟩:=H;obtain⟨k,l,c1,c2,O,Q,Y⟩:=(i.scc (Zhu h) d f).cell (Zhu h) (ZuK h);exact⟨k,l,c1,c2,O,Q,Y⟩
theorem Zqr (h:Xh b) (Q:Zge (QU b) (Zm b) (XG b r) m):∃k:Nat,lastOf (Zm b) (XG b r) m=(k:Int)/\k<(Zm b).length/\(XG b r)[k]?=some true/\List.set (XG b r) k false=XG b (r++[(k:Int)])/\ct (XG b (r++[(k:Int)]))+1=ct (XG b r):=by
 obtain⟨k,e,x,Z,q,_⟩:=ZAm (ZzX h Q);have a:=(Ub.1 Z).1;have H:List.set (XG b r) k false=XG b (r++[(k:Int)]):=by
  have:=Zpr (n:=(Zm b).length) (s:=r) (x:=(k:Int));rw[UG]at this;exact this
 refine⟨k,e,a,q,H,?_⟩;rw[<-H];exact Zzt _ _ q
variable {B:List Int}
theorem Zxt (h:Xh b) {t:List (List Int)} (A:Zge (QU b) (Zm b) (XG b B) m) (H:m.length<=1048576) (v:lastOf (Zm b) (XG b B) m=(k:Int)) (y:k<(Zm b).length) :
  Zt (λs=>Jy (Zm b) (XG b B) s.1 s.2.1 s.2.2.1) ((-1:Int),(0:Int),m::t,())=some (.inl (List.set (XG b B) k false,())):=by
 have F:=Y2 h;have j:(XG b B).length=(Zm b).length:=Qo _ _;have:YM (Zt (λs=>Jy (Zm b) (XG b B) s.1 s.2.1 s.2.2.1) ((-1:Int),(0:Int),m::t,())) (λr=>r=.inl (List.set (XG b B) k false,())):=by
  refine YM.loop (λs=>0<=s.2.1/\s.2.1<=((Zm b).length:Int)/\s.2.2.1=m::t/\s.1=XU (ZlV (XG b B) m) 0 ((Zm b).take s.2.1.toNat) (-1)) (λs=>(((Zm b).length:Int)-s.2.1).toNat)
   ⟨U7 _,by dsimp only;omega,rfl,rfl⟩ ?_
  rintro⟨w,i,Y,⟨⟩⟩ ⟨I,i1,o,c⟩;dsimp only at I i1 o c;subst o;show YM (Jy (Zm b) (XG b B) w i (m::t)) _;unfold Jy;have C:Wq (i+1)=i+1:=QP;simp only[C];refine YM.ite (λg=>?_) (λg=>?_)
  ·have n:∀l,(Zm b)[i.toNat]?=some l->∀w',w'=ZlV (XG b B) m i.toNat l w->w'=XU (ZlV (XG b B) m) 0 ((Zm b).take (i+1).toNat) (-1):=λl j w' e=>by
    rw[show(i+1).toNat=i.toNat+1 by omega,Zcq j,e,c]
   have u:(Zm b)[i.toNat]?=some ((Zm b)[i.toNat]'(by omega)):=Ua _;refine .at I (by omega) λx Z G=>?_;refine YM.ite (λa=>?_) (λf=>?_)
   ·refine .at I g λl W R=>?_
    refine YM.ite (λd=>?_) (λd=>?_)
    ·rw[show atI (m::t) (0:Int)=some m from rfl,Bq,Zhh _ _ H,Bq]
     refine YM.ite (λQ=>?_) (λQ=>?_)
     ·rw[Zhh _ _ H,Bq]
      refine YM.ite (λq=>?_) (λq=>?_)
      ·exact .ret ⟨⟨by dsimp only;omega,by dsimp only;omega,rfl,n l R _ (by rw[Zrz (by rw[G,a]) d (of_decide_eq_true Q) (of_decide_eq_true q)];omega)⟩,by dsimp only;omega⟩
      ·exact .ret ⟨⟨by dsimp only;omega,by dsimp only;omega,rfl,n l R _ (by rw[ZiN λ_ _ _ z=>q (UJ z)])⟩,by dsimp only;omega⟩
     ·exact .ret ⟨⟨by dsimp only;omega,by dsimp only;omega,rfl,n l R _ (by rw[ZiN λ_ _ z _=>Q (UJ z)])⟩,by dsimp only;omega⟩
    ·exact .ret ⟨⟨by dsimp only;omega,by dsimp only;omega,rfl,n l R _ (by rw[ZiN λ_ z _ _=>d z])⟩,by dsimp only;omega⟩
   ·exact .ret ⟨⟨by dsimp only;omega,by dsimp only;omega,rfl,n _ u _ (by rw[ZiN λz _ _ _=>by rw[G]at z;injection z with z;exact f z])⟩,by dsimp only;omega⟩
  ·have E:i=((Zm b).length:Int):=by omega
   have p:w=(k:Int):=by
    rw[c,E,UG,Ur,<-v];rfl
   subst p;refine .at (by omega) (by omega) λx _ _=>?_;exact .ret (show _=_ by rw[UG])
 obtain⟨r,e,rfl⟩:=this;exact e
theorem ZoY (h:Xh b):∀(n:Nat) (B:List Int),ct (XG b B)<=n->Zt (λs=>XR (Zm b) (QU b:Int) s.1) (XG b B,())=some (dead (XG b (Zq9 b n B))):=by
 intro n;have F:=Y2 h;have W:=ZfZ h;induction n with
 |zero =>
  intro B c;obtain⟨r,e1,j⟩:=Zj4 (lv:=XG b B) (by omega) (Zhu h) F (Qo _ _);cases r with
  |nil =>
   refine YF ?_;show XR (Zm b) (QU b:Int) (XG b B)=_;unfold XR;rw[e1,Bq,Uc (by simp),Znp (by rw[show(XG b B).length=(Zm b).length from Qo _ _];exact F)];rfl
  |cons m t =>
   have Q:Zge (QU b) (Zm b) (XG b B) m:=j;obtain⟨k,_,_,_,_,q⟩:=Zqr h Q;omega
 |succ n i =>
  intro B c;obtain⟨r,e1,j⟩:=Zj4 (lv:=XG b B) (by omega) (Zhu h) F (Qo _ _);unfold Zq9;cases r with
  |nil =>
   have o:¬∃v,NT (Zm b) (XG b B) v:=λ⟨v,a⟩=>by
    have A:=a.inn (Zhu h);exact j v A.1 A.2 a
   rw[ZT o];refine YF ?_;show XR (Zm b) (QU b:Int) (XG b B)=_;unfold XR;rw[e1,Bq,Uc (by simp),Znp (by rw[show(XG b B).length=(Zm b).length from Qo _ _];exact F)]
  |cons m t =>
   have Q:Zge (QU b) (Zm b) (XG b B) m:=j;obtain⟨k,k1,d,_,K,e⟩:=Zqr h Q;rw[ZR Q.nt,Zp5 Q,k1];have l:m.length<=1048576:=by
    obtain⟨w,w1,w2,_,w4⟩:=id Q;have:=(w4.scc (Zhu h) w1 w2).len;omega
   refine(YW (v':=(XG b (B++[(k:Int)]),())) ?_).trans (i (B++[(k:Int)]) (by omega));show XR (Zm b) (QU b:Int) (XG b B)=_;unfold XR;rw[e1,Bq,Ue (by simp only[Uf];omega),Zxt h Q l k1 d,K]
noncomputable def ZjO (b:Zc):List Int:=Zq9 b (Zm b).length []
theorem ZB3 (l:List Bool):ct l<=l.length:=KV
theorem ZqG (h:Xh b):ZeA b=some (dead (XG b (ZjO b))):=by
 have F:=Y2 h;unfold ZeA;rw[Zdh h,Bq,Zgu _ _ F (by simp),Bq,ZiM h,Bq];refine ZoY h _ [] ?_;have:=ZB3 (XG b []);rw[show(XG b []).length=(Zm b).length from Qo _ _]at this;exact this
def Zof (lv:List Bool) (node:Int) (k:Nat) (x:Zn):List Int:=if(lv[k]?).getD false=true then(if Gc x=node then(if Gf x=node then[(k:Int)]else[])else[])else[]
theorem Zxk (lv:List Bool) (node:Int) (k:Nat) (x:Zn):(Zof lv node k x).length<=1:=by
 unfold Zof;grind
variable {v:ZG}
theorem Zrs (h:Xh b) (s:VOk b v) (B:lv.length=(Zm b).length) (node:Int):JC (v,lv,()) node=some (tr (Live (Zm b) lv node node)):=by
 have F:=Y2 h;have E:ZG.links (ZM.view ((v,lv,()):ZM))=Zm b:=s.links;have j:ZM.live ((v,lv,()):ZM)=lv:=rfl;unfold JC Xe;have:=Xx (l:=Zm b) (ρ:=List Int) (Zof lv node) [] (step:=λu=>Yk (v,lv,()) (node,()) u.1 u.2.1) (good:=cat (Zof lv node) 0 (Zm b))
  (λk x Z w=>by
   have d:lv[k]?=some (lv[k]'(by omega)):=Ua _;have n:=VJ (f:=Zof lv node) (c:=1) (l:=(Zm b).take k) (m:=0) (λk x _=>Zxk lv node k x);rw[Uo]at n;simp only[Yk,E,j,show(k:Int)<((Zm b).length:Int)from by omega,Uk,Zv,Z,d,Bq,Zac,Uq,Xd (show k<=1048576 by omega)];generalize cat (Zof lv node) 0 ((Zm b).take k)=A at n;unfold Zof;rw[d];simp only[UQ];by_cases Q:lv[k]'(by omega)=true
   ·rw[Uc Q,Uc Q]
    by_cases q:Gc x=node
    ·rw[Uc q,Uc q,Bq]
     by_cases a:Gf x=node
     ·rw[Uc (UJ a),Uc a,Zk (by simp only[Uf,Ug];omega)]
     ·rw[Ue (by rw[Ul];exact a),Ue a,Um]
    ·rw[Ue q,Ue q,Bq,Ue (by decide),Um]
   ·rw[Ue Q,Ue Q,Um])
  (by simp only[Yk,E,Ui,Uj,Uq])
 rw[this,Bq];congr 1;rw[Ko,Ul,Xf];constructor
 ·intro C
  have g:0<(cat (Zof lv node) 0 (Zm b)).length:=by omega
  obtain⟨y,t⟩:=List.exists_mem_of_length_pos g;obtain⟨k,x,Z,H⟩:=XZ.1 t;rw[Uw]at H;unfold Zof at H;split at H
  ·rename_i Q
   split at H
   ·rename_i q
    split at H
    ·rename_i a
     refine⟨k,x,Z,?_,q,a⟩;cases e:lv[k]? with
     |none=>rw[e]at Q;cases Q
     |some z=>rw[e]at Q;exact Ka some Q
    ·cases H
   ·cases H
  ·cases H
 ·rintro⟨k,x,i,o,p,r⟩
  have:(k:Int)∈cat (Zof lv node) 0 (Zm b):=XZ.2 ⟨k,x,i,by
   rw[Uw];unfold Zof;rw[o,UQ,Uc rfl,Uc p,Uc r];exact Ut.2 rfl⟩
  have:=List.length_pos_of_mem this;omega
def inF (lv:List Bool) (m:List Int) (k:Nat) (x:Zn):List Int:=if(lv[k]?).getD false=true/\GH x=1/\Gc x∈m/\Gf x∈m then[(k:Int)]else[]
theorem Zwy (lv:List Bool) (m:List Int) (k:Nat) (x:Zn):(inF lv m k x).length<=1:=by
 unfold inF;split<;>simp
theorem ZoN (h:Xh b) (g:VOk b v) (o:lv.length=(Zm b).length) (m:List Int) (p:m.length<=1048576):YD (v,lv,()) (m,())=some (cat (inF lv m) 0 (Zm b)):=by
 have F:=Y2 h;have E:ZG.links (ZM.view ((v,lv,()):ZM))=Zm b:=g.links;have j:ZM.live ((v,lv,()):ZM)=lv:=rfl;have e:Len m:=by unfold Len;omega
 unfold YD;exact Xx (l:=Zm b) (ρ:=List Int) (inF lv m) [] (step:=λu=>Yn (v,lv,()) (m,()) u.1 u.2.1) (good:=cat (inF lv m) 0 (Zm b))
  (λk x Z i=>by
   have H:lv[k]?=some (lv[k]'(by omega)):=Ua _;have n:=VJ (f:=inF lv m) (c:=1) (l:=(Zm b).take k) (m:=0) (λk x _=>Zwy lv m k x);rw[Uo]at n;simp only[Yn,E,j,show(k:Int)<((Zm b).length:Int)from by omega,Uk,Zv,Z,H,Bq,ZaX,Uq,Xd (show k<=1048576 by omega),ZeX e];generalize cat (inF lv m) 0 ((Zm b).take k)=A at n;unfold inF;rw[H];simp only[UQ];by_cases Q:lv[k]'(by omega)=true
   ·rw[Uc Q]
    by_cases q:GH x=1
    ·rw[Uc q]
     by_cases a:Gc x∈m
     ·rw[Uc (UJ a),Bq]
      by_cases d:Gf x∈m
      ·rw[Uc (UJ d),Uc ⟨Q,q,a,d⟩,Zk (by simp only[Uf,Ug];omega)]
      ·rw[Ue (by rw[Ul];exact d),Ue (λz=>d z.2.2.2),Um]
     ·rw[Ue (by rw[Ul];exact a),Bq,Ue (by decide),Ue (λz=>a z.2.2.1),Um]
    ·rw[Ue q,Bq,Ue (by decide),Ue (λz=>q z.2.1),Um]
   ·rw[Ue Q,Ue (λz=>Q z.1),Um])
  (by simp only[Yn,E,Ui,Uj,Uq])
theorem ZnR {L:List Zn} {lv:List Bool} {m:List Int}:∀n,n<=L.length->XU (ZlV lv m) 0 (L.take n) (-1)=((cat (inF lv m) 0 (L.take n)).getLast?).getD (-1)
 |0,_=>by rw[Ki];rfl
 |n+1,W=>by
  have l:n<L.length:=by omega
  have Z:L[n]?=some (L[n]'l):=Ua l;generalize L[n]'l=x at Z;rw[Zcq Z,XF Z,Zi8,ZnR n (by omega)];have t:(L.take n).length=n:=by rw[Uo];omega
  show ZlV lv m n x _=((cat (inF lv m) 0 (L.take n)++(inF lv m (0+(L.take n).length) x++[])).getLast?).getD (-1);rw[t,Uw,Um];unfold ZlV inF;split
  ·rw[List.getLast?_append]
   first|done|rfl
  ·rw[Um]
def ZzL (N:Nat) (L:List Zn) (lv:List Bool) (u:Int) (r:List Bool):Prop:=r.length=N/\∀(a:Nat) (c:Bool),r[a]?=some c->(c=true<->RR L lv u (a:Int))
theorem ZmR (h:Xh b) (n:VOk b v) (F:List Int):YM (Zdb (v,XG b F,())) (ZbO (QU b) (Zm b) (XG b F) (QU b:Int)):=by
 have h6:=Y2 h;have hn:=ZfZ h;have en:=nN b;have B:(XG b F).length=(Zm b).length:=Qo _ _;have A:=Zhu h;generalize hN:QU b=N at *;generalize d2:XG b F=lv at *;unfold Zdb;rw[show YP (ZM.view ((v,lv,()):ZM))=some (N:Int)from by rw[<-hN];exact Zqs h n,Bq];refine YM.loop (λs=>(0<=s.2.1/\s.2.1<=(N:Int))/\(s.1.length:Int)=s.2.1/\∀(i:Nat) (r:List Bool),s.1[i]?=some r->ZzL N (Zm b) lv (i:Int) r) (λs=>((N:Int)-s.2.1).toNat) ⟨⟨U7 _,by dsimp only;omega⟩,rfl,λi r hr=>by simp at hr⟩ ?_;rintro⟨R,k,⟨⟩⟩ ⟨⟨k0,k1⟩,k2,k3⟩;dsimp only at k0 k1 k2 k3;show YM (Zbs ((v,lv,()):ZM) (N:Int) R k) _;unfold Zbs;have ek:Wq (k+1)=k+1:=QP;refine YM.ite (λhk=>?_) (λhk=>?_)
 ·obtain⟨r,e,a6,a7⟩:=Zu4 (g:=((v,lv,()):ZM)) (nodes:=[k]) (N:=N) (by show _=2*((ZG.ZB v).length:Int);rw[n.ZB];omega) (by omega) (by show InN _ (ZG.links v);rw[n.links];exact A) (by show(ZG.links v).length<=6000;rw[n.links];exact h6) (by show lv.length=(ZG.links v).length;rw[n.links];exact B) (λa f=>by rw[Ut.1 f];omega) (by simp)
  have a8:ZzL N (Zm b) lv k r:=⟨a6,λa c W=>by
   have:=a7 a c W;rw[show ZG.links (ZM.view ((v,lv,()):ZM))=Zm b from n.links] at this;rw[this];have e2:(λa=>a∈[k])=(λa:Int=>a=k):=funext λa=>propext Ut;rw[e2]⟩
  rw[e,Bq,ek];refine .guard (by simp only[Uf,Ug];omega) (.ret ⟨⟨⟨by dsimp only;omega,by dsimp only;omega⟩,by dsimp only;rw[Uh];simp only[Uf,Ug];omega,λi r' H=>?_⟩,by dsimp only;omega⟩);dsimp only at H;by_cases K:i<R.length
  ·rw[Uy K]at H
   exact k3 i r' H
  ·rw[UY (by omega)]at H
   have a2:i-R.length=0:=by
    have:=(Ub.1 H).1;simp only[Uf,Ug]at this;omega
   rw[a2]at H;injection H with H
   rw[<-H,show(i:Int)=k by omega];exact a8
 refine .guard (by omega) (.guard (U7 _) (.guard (by omega) (.guard (by omega) ?_)));have d1:R.length=N:=by omega
 have row:∀u:Int,0<=u->u<(N:Int)->∃r,atI R u=some r/\R[u.toNat]?=some r/\ZzL N (Zm b) lv u r:=λu u0 u1=>by
  have X:R[u.toNat]?=some (R[u.toNat]'(by omega)):=Ua _;refine⟨_,Qt u0 X,X,?_⟩;have:=k3 u.toNat _ X;rw[show(u.toNat:Int)=u by omega]at this;exact this
 refine YM.loop (λs=>(0<=s.2.1/\s.2.1<=(N:Int)/\(s.1.length:Int)<=s.2.1)/\ZbO N (Zm b) lv s.2.1 s.1/\s.2.2.1=R/\s.2.2.2.1.length=N/\Zmh (Zm b) lv s.2.1 s.2.2.2.1) (λs=>((N:Int)-s.2.1).toNat)
  ⟨⟨U7 _,by dsimp only;omega,by dsimp only[List.length_nil];omega⟩,(by show ∀u:Int,0<=u->u<0->¬NT (Zm b) lv u;intro u h0 d;omega),rfl,by simp,λa f=>by grind⟩ ?_
 rintro⟨out,u,l0,l1,⟨⟩⟩ ⟨⟨I,i1,i2⟩,o,i4,O,D⟩;dsimp only at I i1 i2 o i4 O D;subst i4;show YM (Zbr ((v,lv,()):ZM) (N:Int) out u l0 l1) _;unfold Zbr;have Y:Wq (u+1)=u+1:=QP;refine YM.ite (λhu=>?_) (λhu=>.ret (show ZbO N (Zm b) lv (N:Int) out from by rw[show(N:Int)=u by omega];exact o));refine .at I (by omega) λx hx G=>?_;refine YM.ite (λt=>?_) (λ_=>?_)
 ·rw[Y]
  refine .ret ⟨⟨⟨by dsimp only;omega,by dsimp only;omega,by dsimp only;omega⟩,o.skip λe C=>?_,rfl,O,D.mono⟩,by dsimp only;omega⟩;rw[t]at G;obtain⟨w,w1,w2,w3⟩:=D u.toNat G;rw[show(u.toNat:Int)=u by omega]at w2 w3;subst e;exact o w w1.1 w1.2 (ZwR w2 w3)
 obtain⟨ru,b8,b9,d5,d0⟩:=row u I hu;refine YM.loop (λs=>(0<=s.2.1/\s.2.1<=(N:Int)/\(s.1.length:Int)<=s.2.1)/\ZcR (λc:Int=>c) s.1/\s.2.2.1=l0/\∀c,c∈s.1<->((0<=c/\c<s.2.1)/\RR (Zm b) lv u c/\RR (Zm b) lv c u)) (λs=>((N:Int)-s.2.1).toNat)
  ⟨⟨U7 _,by dsimp only;omega,by dsimp only[List.length_nil];omega⟩,(by show ZcR (λc:Int=>c) [];exact List.Pairwise.nil),rfl,λc=>⟨λq=>(by cases q),λq=>by grind⟩⟩ ?_
 rintro⟨m,i,Z,⟨⟩⟩ ⟨⟨j0,j1,j2⟩,E,j4,J⟩;dsimp only at j0 j1 j2 E j4 J;subst j4;show YM (Zbq ((v,lv,()):ZM) (N:Int) out u l1 m i Z) _;unfold Zbq;have ei:Wq (i+1)=i+1:=QP;have es:List.set Z (Int.toNat u) ru=Z:=Zog b9;refine YM.ite (λK=>?_) (λK=>?_)
 ·have a3:(i.toNat:Int)=i:=by omega
  obtain⟨ri,b5,b6,d4,b7⟩:=row i j0 K;have P:List.set Z (Int.toNat i) ri=Z:=Zog b6;have skip:(¬(RR (Zm b) lv u i/\RR (Zm b) lv i u))->∀c,c∈m<->((0<=c/\c<i+1)/\RR (Zm b) lv u c/\RR (Zm b) lv c u):=λa5 c=>by
   rw[J c];constructor
   ·rintro⟨d,l⟩;exact⟨⟨d.1,by omega⟩,l⟩
   ·rintro⟨d,l⟩
    refine⟨⟨d.1,?_⟩,l⟩;by_cases e:c=i
    ·subst e;exact absurd l a5
    ·omega
  rw[b8,Bq,es,ei];refine .at j0 (by omega) λx hx G=>?_;have a0:=d0 i.toNat x G;rw[a3]at a0;refine YM.ite (λt=>?_) (λa9=>?_)
  ·rw[b5,Bq,Bq,P]
   refine .at I (by omega) λy hy b2=>?_;have a1:=b7 u.toNat y b2;rw[show(u.toNat:Int)=u by omega]at a1;refine YM.ite (λb4=>?_) (λb3=>?_)
   ·have b0:=a0.1 t
    have b1:=a1.1 b4;refine .guard (by simp only[Uf,Ug];omega) (.ret ⟨⟨⟨by dsimp only;omega,by dsimp only;omega,by dsimp only;rw[Uh];simp only[Uf,Ug];omega⟩,?_,rfl,λc=>?_⟩,by dsimp only;omega⟩)
    ·show ZcR (λc:Int=>c) (m++[i])
     refine List.pairwise_append.2 ⟨E,List.pairwise_singleton ..,λa f c W=>?_⟩;rw[Ut.1 W];exact((J a).1 f).1.2
    ·dsimp only
     rw[Uu,Ut,J c];constructor
     ·rintro(⟨d,l⟩|rfl)
      ·exact⟨⟨d.1,by omega⟩,l⟩
      ·exact⟨⟨j0,by omega⟩,b0,b1⟩
     ·rintro⟨d,l⟩
      by_cases e:c=i
      ·exact .inr e
      ·exact .inl ⟨⟨d.1,by omega⟩,l⟩
   ·exact .ret ⟨⟨⟨by dsimp only;omega,by dsimp only;omega,by dsimp only;omega⟩,E,rfl,skip λq=>b3 (a1.2 q.2)⟩,by dsimp only;omega⟩
  ·exact .ret ⟨⟨⟨by dsimp only;omega,by dsimp only;omega,by dsimp only;omega⟩,E,rfl,skip λq=>a9 (a0.2 q.1)⟩,by dsimp only;omega⟩
 ·have a4:i=(N:Int):=by omega
  have U:Zvm N (Zm b) lv u m:=⟨λc=>by rw[J c,a4],E⟩;have V:=U.two A ⟨I,hu⟩;have d3:(m.length:Int)<=(N:Int):=by omega
  have M:∀Q:((List Int×Int×List (List Bool)×Unit)⊕((List (List Int)×Int×List (List Bool)×List Bool×Unit)⊕((List (List Bool)×Int×Unit)⊕List (List Int))))->Prop,(∀L:List Bool,L.length=N->Zmh (Zm b) lv (u+1) L->Q (.inr (.inl (out++[m],u+1,Z,L,()))))->YM (Zt (λs=>Vh out u m Z s.1 s.2.1) ((0:Int),l1,())) Q:=λQ hQ=>by
   refine YM.loop (λs=>0<=s.1/\s.1<=(m.length:Int)/\s.2.1.length=N/\Zmh (Zm b) lv (u+1) s.2.1) (λs=>((m.length:Int)-s.1).toNat) ⟨U7 _,by dsimp only;omega,O,D.mono⟩ ?_;rintro⟨j,L,⟨⟩⟩ ⟨g0,g1,S,T⟩;dsimp only at g0 g1 S T;show YM (Vh out u m Z j L) _;unfold Vh;have ej:Wq (j+1)=j+1:=QP;refine YM.ite (λhj=>?_) (λhj=>?_)
   ·refine .at g0 hj λx hx G=>?_
    have p:=(J x).1 hx;refine .at p.1.1 (by omega) λy _ _=>?_;rw[ej];refine .ret ⟨⟨by dsimp only;omega,by dsimp only;omega,by dsimp only;rw[UZ];exact S,λa f=>?_⟩,by dsimp only;omega⟩;dsimp only at f;rw[UX]at f;split at f
    ·rename_i e
     rw[show(a:Int)=x by have:=p.1.1;omega];exact⟨u,⟨I,by omega⟩,p.2.1,p.2.2⟩
    ·exact T a f
   ·rw[Y]
    exact .guard (by simp only[Uf,Ug];omega) (.ret (show Q _ from hQ L S T))
  refine YM.ite (λd=>?_) (λd=>?_)
  ·rw[Zrs h n B u,Bq]
   refine YM.ite (λq=>?_) (λq=>?_)
   ·exact M _ λL q1 q2=>⟨⟨⟨by dsimp only;omega,by dsimp only;omega,by dsimp only;rw[Uh];simp only[Uf,Ug];omega⟩,o.add I (V.2 (.inr ((Xf _).1 q))) U,rfl,q1,q2⟩,by dsimp only;omega⟩
   ·rw[Y]
    refine .ret ⟨⟨⟨by dsimp only;omega,by dsimp only;omega,by dsimp only;omega⟩,o.skip λ_ C=>?_,rfl,O,D.mono⟩,by dsimp only;omega⟩;rcases V.1 C with z|z
    ·omega
    ·exact q (ZR z)
  ·exact M _ λL q1 q2=>⟨⟨⟨by dsimp only;omega,by dsimp only;omega,by dsimp only;rw[Uh];simp only[Uf,Ug];omega⟩,o.add I (V.2 (.inl (by omega))) U,rfl,q1,q2⟩,by dsimp only;omega⟩
variable {l:List Int} {x:Int}
theorem ZAw:x∈srt l<->x∈l:=List.mem_mergeSort
theorem ZnY {n:Nat} (H:k<n:=by omega):(ZaB n r)[k]?=some (!decide ((k:Int)∈r)):=by
 unfold ZaB;rw[UL,Kf H];rfl
theorem ZkA {x:Bool} {y:Int}:y∈Zkz k x<->x=false/\y=(k:Int):=by
 unfold Zkz;cases x<;>simp
theorem Zqp:x∈dead lv<->∃k:Nat,lv[k]?=some false/\x=(k:Int):=by
 unfold dead;rw[XZ];constructor
 ·rintro⟨k,y,d,f⟩
  obtain⟨rfl,rfl⟩:=ZkA.1 f;exact⟨k,d,by omega⟩
 ·rintro⟨k,d,rfl⟩
  exact⟨k,false,d,ZkA.2 ⟨rfl,by omega⟩⟩
theorem Zp0:∀(l:List Bool) (m:Nat),ZcR (λc:Int=>c) (cat Zkz m l)
 |[],_=>List.Pairwise.nil
 |x::l,m=>by
  show List.Pairwise _ (Zkz m x++cat Zkz (m+1) l);refine List.pairwise_append.2 ⟨?_,Zp0 l (m+1),λa h c q=>?_⟩
  ·unfold Zkz
   cases x<;>simp
  ·obtain⟨_,rfl⟩:=ZkA.1 h
   obtain⟨k,y,_,f⟩:=XZ.1 q;obtain⟨_,rfl⟩:=ZkA.1 f;show(m:Int)<((m+1+k:Nat):Int);omega
theorem ZCa (h:ZcR (λc:Int=>c) l):Inc l:=λk x y Z e=>by
 obtain⟨d,e1⟩:=Ub.1 Z;obtain⟨H,f⟩:=Ub.1 e;have:=List.pairwise_iff_getElem.1 h k (k+1) d H (by omega);rw[e1,f]at this;exact this
variable (n:Nat) (r:List Int)
theorem Zyf:Zmz (n:Int) (dead (ZaB n r)):=⟨λx Z=>by
 obtain ⟨k,H,rfl⟩:=Zqp.1 Z;have:=(Ub.1 H).1;rw[Qo] at this;omega,ZCa (Zp0 _ 0)⟩
theorem Zz6:ZaB n (dead (ZaB n r))=ZaB n r:=by
 apply UI;intro k;by_cases H:k<n
 ·rw[ZnY H,ZnY H]
  congr 2;rw[Kx,Zqp];constructor
  ·rintro⟨j,b,e⟩
   have:j=k:=by omega
   subst this;rw[ZnY H]at b;injection b with b
   simpa using b
  ·intro h
   exact⟨k,by rw[ZnY H];simp[h],rfl⟩
 ·rw[Uv (by rw[Qo];omega),Uv (by rw[Qo];omega)]
theorem Zye:(dead (ZaB n r)).length<=n:=by
 have:=VJ (f:=Zkz) (c:=1) (l:=ZaB n r) (m:=0) (λk x _=>Zrd k x);rw[Qo]at this;unfold dead;omega
theorem ZAT (h:l.Nodup):ZcR (λc:Int=>c) (srt l):=by
 have H:(srt l).Pairwise (λa c=>a<=c):=by
  have:=List.pairwise_mergeSort (le:=λx y:Int=>decide (x<=y)) (λa c d H f=>by simp only[Ul]at *;omega) (λa c=>by simp only[KD,Ul];omega) l;exact this.imp λh=>by simpa using h
 have f:(srt l).Pairwise (λa c=>a≠c):=((List.mergeSort_perm l _).nodup_iff.2 h);exact (H.and f).imp λ{a c} ⟨g,i⟩=>(by
  have:a<c:=by omega
  exact this)
theorem ZAs (h:Xh b) (n:∃v,NT (Zm b) (XG b B) v):∃m,Zge (QU b) (Zm b) (XG b B) m:=by
 have F:=Y2 h;have W:=ZfZ h;obtain⟨r,_,j⟩:=Zj4 (lv:=XG b B) (by omega) (Zhu h) F (Qo _ _);cases r with
 |nil =>
  obtain⟨v,a⟩:=n;have A:=a.inn (Zhu h);exact absurd a (j v A.1 A.2)
 |cons m t=>exact⟨m,j⟩
theorem Zkr (h:Xh b) {n:Nat} {r:List Int} (H:∃v,NT (Zm b) (XG b r) v):∃k:Nat,Zq9 b (n+1) r=Zq9 b n (r++[(k:Int)])/\k<(Zm b).length/\(XG b r)[k]?=some true/\ct (XG b (r++[(k:Int)]))+1=ct (XG b r):=by
 obtain⟨m,Q⟩:=ZAs h H;obtain⟨k,k1,d,K,_,o⟩:=Zqr h Q;refine⟨k,?_,d,K,o⟩;simp only[Zq9,ZR H,Zp5 Q,k1]
theorem Zno {n:Nat} {r:List Int} (h:¬∃v,NT (Zm b) (XG b r) v):Zq9 b n r=r:=by
 cases n with
 |zero=>rfl
 |succ n=>simp only[Zq9,ZT h]
theorem ZvD {b:Zc} (h:Xh b):∀(n:Nat) (r:List Int),r.Nodup->(∀x∈r,0<=x/\x<((Zm b).length:Int))->(Zq9 b n r).Nodup/\∀x∈Zq9 b n r,0<=x/\x<((Zm b).length:Int)
 |0,r,d,f=>⟨d,f⟩
 |n+1,r,d,f=>by
  by_cases H:∃v,NT (Zm b) (XG b r) v
  ·obtain⟨k,e,K,Q,_⟩:=Zkr h (n:=n) H
   rw[e];have i:(k:Int) ∉ r:=λq=>by
    rw[ZnY K]at Q;injection Q with Q
    simp[q]at Q
   refine ZvD h n _ ?_ λx Z=>?_
   ·rw[UW]
    exact ⟨d,by simp,λa m c g=>by
     rw[Ut.1 g];exact λe=>i (e▸m)⟩
   ·rcases Uu.1 Z with Z|Z
    ·exact f x Z
    ·rw[Ut.1 Z]
     omega
  ·rw[Zno H]
   exact⟨d,f⟩
theorem Ztn {b:Zc} (h:Xh b):∀(n:Nat) (r:List Int),ct (XG b r)<=n->¬∃v,NT (Zm b) (XG b (Zq9 b n r)) v
 |0,r,q=>λH=>by
  obtain⟨k,_,_,_,o⟩:=Zkr h (n:=0) H;have o:ct (XG b (r++[(k:Int)]))+1=ct (XG b r):=o;omega
 |n+1,r,q=>by
  by_cases H:∃v,NT (Zm b) (XG b r) v
  ·obtain⟨k,e,_,_,o⟩:=Zkr h (n:=n) H
   rw[e];exact Ztn h n _ (by omega)
  ·rw[Zno H]
   exact H
theorem ZB4 (b:Zc) (r:List Int):ct (XG b r)<=(Zm b).length:=by
 have:=ZB3 (XG b r)
 rwa [show(XG b r).length=(Zm b).length from Qo _ _]at this
theorem Zy8 (h:Xh b):srt (ZjO b)=dead (XG b (ZjO b)):=by
 obtain⟨d,f⟩:=ZvD h (Zm b).length [] KM (λx Z=>by cases Z);have d:(ZjO b).Nodup:=d;have f:∀x∈ZjO b,0<=x/\x<((Zm b).length:Int):=f;refine key_eq (ZAT d) (Zp0 _ 0) λx=>?_;rw[ZAw];show _<->x∈dead (XG b (ZjO b));rw[Zqp];constructor
 ·intro Z
  have:=f x Z;refine⟨x.toNat,?_,by omega⟩;rw[ZnY,show(x.toNat:Int)=x by omega];simp[Z]
 ·rintro⟨k,H,rfl⟩
  have l:=(Ub.1 H).1;rw[Qo]at l;rw[ZnY l]at H;injection H with H
  simpa using H
noncomputable def ZqW (b:Zc):List Int:=dead (XG b (ZjO b))
theorem Zx5 (h:Xh b):(ZaC b (ZqW b)).2=true:=by
 refine Zpk h λv a=>?_;unfold ZqW at a;rw[show XG b (dead (XG b (ZjO b)))=XG b (ZjO b)from Zz6 _ _]at a;exact Ztn h _ [] (ZB4 b []) ⟨v,a⟩
theorem Zpm (h:Xh b) (a:VOk b v) (r:List Int):ZbA (v,XG b r,())=some (!(ZaC b r).2):=by
 unfold ZbA;rw[Znb h a r];rfl
theorem ZAS (h:l.length<=1048576:=by omega):ZAR l=some (srt l):=by
 unfold ZAR;rw[Qe]
theorem ZoM (h:Xh b) (g:VOk b v):∀(n:Nat) (B:List Int),ct (XG b B)<=n->B.length+n<=12000->Zt (λs=>Y1 v s.1 s.2.1) (B,XG b B,())=some (.inr (.inr (srt (Zq9 b n B)))):=by
 intro n;have P:=Y2 h;have W:=ZfZ h;have p:∀(n:Nat) (B:List Int),B.length<=12000->(¬∃u,NT (Zm b) (XG b B) u)->Zt (λs=>Y1 v s.1 s.2.1) (B,XG b B,())=some (.inr (.inr (srt (Zq9 b n B)))):=λn B D o=>by
  have i:(ZaC b B).2=true:=Zpk h λu d=>o ⟨u,d⟩;refine YF ?_;show Y1 v B (XG b B)=_;unfold Y1;rw[Zpm h g,Bq,i,Ue (by decide),ZAS,Bq,Zno o]
 induction n with
 |zero =>
  intro B I D;refine p 0 B (by omega) λa=>?_;obtain⟨k,_,_,_,K⟩:=Zkr h (n:=0) a;have K:ct (XG b (B++[(k:Int)]))+1=ct (XG b B):=K;omega
 |succ n M =>
  intro B I D;by_cases a:∃u,NT (Zm b) (XG b B) u;rotate_left
  ·exact p (n+1) B (by omega) a
  have i:(ZaC b B).2=false:=by
   cases e:(ZaC b B).2 with
   |false=>rfl
   |true =>
    obtain⟨u,d⟩:=a;exact absurd d (ZuW h e u)
  obtain⟨r,e1,z⟩:=ZmR h g B;cases r with
  |nil =>
   obtain⟨u,d⟩:=a;have A:=d.inn (Zhu h);exact absurd d (z u A.1 A.2)
  |cons m t =>
   have Q:Zge (QU b) (Zm b) (XG b B) m:=z;obtain⟨k,k1,R,N,O,K⟩:=Zqr h Q;have q:m.length<=1048576:=by
    obtain⟨w,w1,w2,_,w4⟩:=id Q;have:=(w4.scc (Zhu h) w1 w2).len;omega
   have A:=ZnR (L:=Zm b) (lv:=XG b B) (m:=m) (Zm b).length (UE _);rw[Ur]at A;have H:((cat (inF (XG b B) m) 0 (Zm b)).getLast?).getD (-1)=(k:Int):=A.symm.trans k1;have j:=VJ (f:=inF (XG b B) m) (c:=1) (l:=Zm b) (m:=0) (λk x _=>Zwy _ m k x);have E:=ZoN h g (lv:=XG b B) (Qo _ _) m q;generalize cat (inF (XG b B) m) 0 (Zm b)=c at H j E;have C:c[c.length-1]?=some (k:Int):=by
    rw[<-List.getLast?_eq_getElem?];cases e:c.getLast? with
    |none =>
     rw[e]at H;have:(-1:Int)=(k:Int):=H;omega
    |some y =>
     rw[e]at H;have:y=(k:Int):=H;rw[this]
   have J:=(Ub.1 C).1;have F:atI c (Wq ((c.length:Int)-1))=some (k:Int):=by
    rw[QP];exact Qt (by omega) (by rw[show((c.length:Int)-1).toNat=c.length-1 by omega];exact C)
   have G:Zq9 b (n+1) B=Zq9 b n (B++[(k:Int)]):=by
    simp only[Zq9,ZR a,Zp5 Q,k1]
   rw[G];refine(YW (v':=(B++[(k:Int)],XG b (B++[(k:Int)]),())) ?_).trans (M (B++[(k:Int)]) (by omega) (by rw[Uh];simp only[Uf,Ug];omega));show Y1 v B (XG b B)=_;unfold Y1;rw[Zpm h g,Bq,i,Uc (by decide),e1,Bq,show atI (m::t) (0:Int)=some m from rfl,Bq,E,Bq,F,Bq,Zv,N,Bq,Zk (by simp only[Uf,Ug];omega),UG,O]
def upTo (n i:Nat):List Bool:=(List.range n).map λk=>decide (k<i)
theorem Zzc (i:Nat):(upTo n i).length=n:=by simp[upTo]
theorem Zzd {n i:Nat} (l:i<n:=by omega):List.set (upTo n i) i true=upTo n (i+1):=by
 apply List.ext_getElem
 ·simp[upTo]
 ·intro j d f
  simp only[upTo,List.getElem_set,List.getElem_map,List.getElem_range];split
  ·symm
   rw[Ul];omega
  ·rw[Kx]
   omega
theorem ZxG:upTo n 0=List.replicate n false:=by
 apply List.ext_getElem
 ·simp[upTo]
 ·intro j d f
  simp[upTo]
theorem ZxF:upTo n n=ZaB n []:=by
 unfold upTo ZaB;refine KK λk H=>?_;have:=Ky.1 H;simp[this]
theorem ZkN (h:Xh b) (a:VOk b v):VW v=some (ZqW b):=by
 have F:=Y2 h;have n:=ZoM h a (Zm b).length [] (ZB4 b []) (by simp only[Ug];omega);have key:YM (Zt (λs=>Vg v s.1 s.2.1) ((0:Int),List.replicate (Int.toNat ((Zm b).length:Int)) false,())) (λr=>r=srt (ZjO b)):=by
  refine YM.loop (λs=>0<=s.1/\s.1<=((Zm b).length:Int)/\s.2.1=upTo (Zm b).length s.1.toNat) (λs=>(((Zm b).length:Int)-s.1).toNat) ⟨U7 _,by dsimp only;omega,by dsimp only;rw[UG];exact(ZxG _).symm⟩ ?_;rintro⟨i,l,⟨⟩⟩ ⟨I,i1,o⟩;dsimp only at I i1 o;subst o;show YM (Vg v i (upTo (Zm b).length i.toNat)) _;unfold Vg;rw[a.links,UT,UG];refine YM.ite (λH=>?_) (λH=>?_)
  ·refine .at I (by rw[Zzc];omega) λx _ _=>?_
   rw[QP];refine .ret ⟨⟨by dsimp only;omega,by dsimp only;omega,?_⟩,by dsimp only;omega⟩;dsimp only;rw[Zzd,show(i+1).toNat=i.toNat+1 by omega]
  ·have z:i.toNat=(Zm b).length:=by omega
   rw[z,ZxF];have E:X8 v (XG b []) 0=some (.inr (.inr (srt (ZjO b)))):=by
    unfold X8;rw[Qu];exact n
   have e1:Zt (λs=>X8 v (XG b []) s.1) ((0:Int),())=some (.inr (srt (ZjO b))):=YF E;show YM (Zt (λs=>X8 v (XG b []) s.1) ((0:Int),())) _;rw[e1];exact .ret (show srt (ZjO b)=srt (ZjO b)from rfl)
 obtain⟨r,e,rfl⟩:=key;unfold VW;rw[a.links,QQ,Zk (U7 _),QQ,QQ,e,Zy8 h];rfl
theorem ZqH (h:Xh b):ZeA b=some (ZqW b):=ZqG h
def Zhk (l:List ZA):Prop:=l.length<=4/\(∀c∈l,Vd c)/\V4 (l.map GK) l.length
theorem Zk6 (l:List ZA) (h:sm (.sl Qf) l):ZeH l=some (tr (Zhk l)):=by
 have s:=ZK h;unfold ZeH;rw[QF (YV h) (λk c=>Vd c/\∀ (j:Nat) (q:ZA),j<k->l[j]?=some q->GK q≠GK c) (bad:=false) (good:=tr (l.length<=4))
  (λk c Z d _=>by
   simp only[Zck,show(k:Int)<(l.length:Int)from by omega,Uk,Zv,Z,Bq,Zio c (Zg1 h Z)];by_cases H:Vd c
   ·rw[Uc (ZR H),Zj2 (f:=GK) (l:=l) (x:=c) (k:=k) (by omega) (by omega) (bad:=.inr false) (good:=.inl (Wq ((k:Int)+1),()))
     (λj y b e=>by
      simp only[Zcj,show (j:Int)<(k:Int) from by omega,Uk,Zv,e,Bq];split<;>rfl)
     (by simp only[Zcj,Ui,Uj])]
    constructor
    ·intro hh;rw[Xr hh.2]
    ·intro hh;rw[Y7 (λq=>hh ⟨H,q⟩)]
   ·rw[Ue (by rw[ZT H];simp)]
    exact ⟨λhh=>absurd hh.1 H,λ_=>rfl⟩)
  (λ_=>by
   simp only[Zck,Ui,Uj];congr 2;exact (Zm3 (by rw[Ul];omega)).symm)]
 rw[Zef];congr 1;refine Xj ?_;unfold Zhk;rw[Zn0,<-JA];constructor
 ·rintro⟨q,n⟩
  exact⟨n,λk x Z=>(q k x Z).1,λk x Z=>⟨(q k x Z).1.1,(q k x Z).2⟩⟩
 ·rintro⟨n,Q,a⟩
  exact⟨λk x Z=>⟨Q k x Z,(a k x Z).2⟩,n⟩
theorem Zjm (l:List ZA) (h:sm (.sl Qf) l) (H:l.length≠0):Zcu l=some (tr (Zhk l)):=by
 have s:=ZK h;unfold Zcu;have n:(l.map GK).length=l.length:=by simp
 have:=ZhV (l:=l) (ρ:=Bool) (λk=>((l.map GK).take k,(k:Int),())) (λ_ c=>Vd c) (step:=λv=>QJ l v.1 v.2.1) (bad:=false) (good:=tr (l.length<=4/\V4 (l.map GK) l.length))
  (λk c Z a _=>by
   have W:(l.map GK)[k]?=some (GK c):=by simp[Z]
   simp only[QJ,show(k:Int)<(l.length:Int)from by omega,Uk,Zv,Z,Bq,ZfC c];rw[Zk (by simp only[Uo,UV,U5];omega),XF W,Xd];constructor
   ·intro hh;rw[Uc (ZR hh)]
   ·intro hh;rw[Ue (by rw[ZT hh];simp)])
  (λb=>by
   have e:(l.map GK).take l.length=l.map GK:=by rw[<-n,Ur]
   simp only[QJ,Ui,Uj,e,show QL l=some (l.length:Int)from rfl,Bq,Qs];by_cases i:l.length<=4
   ·rw[Uc (ZR (by omega)),VK _ (by rw[n];omega),Bq,n]
    congr 2;exact Xj ⟨λq=>⟨i,q⟩,λq=>q.2⟩
   ·rw[Ue (λq=>i (by have:=(Xf _).1 q;omega)),ZT (λq=>i q.1)])
 refine(show Zt (λv=>QJ l v.1 v.2.1) (([]:List (List UInt8)),(0:Int),())=_ from this).trans ?_;rw[Zef];congr 1;refine Xj ?_;rw[JA];exact⟨λq=>⟨q.2.1,q.1,q.2.2⟩,λq=>⟨q.2.1,q.1,q.2.2⟩⟩
def Zsl (k v:Int):Prop:=(k=1/\v=0)\/(k=2/\1<=v/\v<=10)\/((k=3\/k=4)/\0<=v/\v<=1000000000)
def Zsk (n:Nat) (l:List Int):Prop:=l.length<=4/\Zhj l 0 ((n:Int)-1)
def Zni (n:Nat) (e:Zu):Prop:=Zsk n (G7 e)/\Zsk n (G5 e)/\Zsk n (Ho e)/\Inc (G7 e)/\Inc (Ho e)/\Zsl (G4 e) (Hd e)
theorem ZCy {e:Zu} (h:sm Jj e):sm (.sl (.int .i64)) (G7 e)/\sm (.sl (.int .i64)) (G5 e)/\sm (.sl (.int .i64)) (Ho e):=by
 refine⟨?_,?_,?_⟩;all_goals first|exact h.1|exact h.2.1|exact h.2.2.1|exact h.2.2.2.1|exact h.2.2.2.2.1
variable (k:Int)
theorem ZnN (v:Int):ZgT k v=some (tr (Zsl k v)):=by
 unfold ZgT Zsl;simp only[Qs,Bq];by_cases k1:k=1
 ·rw[Uc k1];exact ZbT (by rw[Ul];omega)
 rw[Ue k1];by_cases d:k=2
 ·rw[Uc d];congr 1;exact Xj (by omega)
 rw[Ue d];by_cases Q:k=3
 ·rw[Uc Q,Uc Q];congr 1;exact Xj (by omega)
 rw[Ue Q];by_cases n:k=4
 ·rw[Uc n];congr 1;exact Xj (by omega)
 ·rw[Ue n,ZT (by omega)]
variable (v:ZG)
theorem Zhs (e:Zu) (h:sm Jj e) (W:(ZG.ZB v).length<=1048576):Vy v e=some (tr (Zni (ZG.ZB v).length e)):=by
 obtain ⟨a1,b,A⟩:=ZCy h;have e1:Wq (((ZG.ZB v).length:Int)-1)=((ZG.ZB v).length:Int)-1:=QP;unfold Vy;rw[QF (l:=[G7 e,G5 e,Ho e]) (show List.length _<=_ by simp) (λ_ x=>Zsk (ZG.ZB v).length x) (bad:=false) (good:=tr (Zsl (G4 e) (Hd e)/\Inc (G7 e)/\Inc (Ho e)))
  (λk x Z d _=>by
   have C:x.length<=1048576:=by
    have:=Ud Z;simp only[Us,UR,Kd]at this;rcases this with rfl|rfl|rfl
    ·exact ZK a1
    ·exact ZK b
    ·exact ZK A
   simp only[Jp,show(k:Int)<(List.length [G7 e,G5 e,Ho e]:Int)from by omega,Uk,Zv,Z,Bq,show Yt (ZG.ZB v)=some ((ZG.ZB v).length:Int)from rfl,e1,Zfj x _ _ C];unfold Zsk;by_cases H:(4:Int)<(x.length:Int)
   ·rw[Uc H]
    exact⟨λhh=>by omega,λ_=>rfl⟩
   ·rw[Ue H]
    constructor
    ·intro hh;rw[Uc (ZR hh.2)]
    ·intro hh;rw[Ue (λq=>hh ⟨by omega,(Xf _).1 q⟩)])
  (λ_=>by
   simp only[Jp,Ui,Uj,ZnN,Bq,Zam _ (YV (t:=.int .i64) a1),Zam _ (YV (t:=.int .i64) A)];by_cases Q:Zsl (G4 e) (Hd e)
   ·rw[Uc (ZR Q)]
    by_cases a:Inc (G7 e)
    ·rw[Uc (ZR a)]
     congr 2;exact Xj ⟨λq=>⟨Q,a,q⟩,λq=>q.2.2⟩
    ·rw[Ue (λq=>a ((Xf _).1 q)),ZT (λq=>a q.2.1)]
   ·rw[Ue (λq=>Q ((Xf _).1 q)),ZT (λq=>Q q.1)]),Zef]
 congr 1;refine Xj ?_;rw[JA];simp only[Us,UR,Kd,forall_eq_or_imp,forall_eq];unfold Zni;exact⟨λ⟨⟨Q,a,c⟩,f,i,j⟩=>⟨Q,a,c,i,j,f⟩,λ⟨Q,a,c,i,j,f⟩=>⟨⟨Q,a,c⟩,f,i,j⟩⟩
theorem ZB9:Inc l<->ZeM l (λk x=>∀y,0<k->l[k-1]?=some y->y<x):=by
 constructor
 ·intro h k x Z y H e
  exact h (k-1) y x e (by rw[show k-1+1=k by omega];exact Z)
 ·intro h k x y Z e
  exact h (k+1) y e x (by omega) Z
variable (b:Zc)
theorem Ze4 (f:Few (K3 b)) (l:List Int) (srt:Bool) (h:sm (.sl (.int .i64)) l):Zbn b l srt=some (tr (Zsk (ZB (K3 b)).length l/\(srt=true->Inc l))):=by
 have s:=ZK h;have g:=YT f;have e1:Wq (((ZB (K3 b)).length:Int)-1)=((ZB (K3 b)).length:Int)-1:=QP;have D:Zf7 b=some ((ZB (K3 b)).length:Int):=by unfold Zf7;rw[Y5 _ f];rfl
 unfold Zbn;rw[QF (YV h) (λk x=>(0<=x/\x<=((ZB (K3 b)).length:Int)-1)/\(srt=true->∀ y,0<k->l[k-1]?=some y->y<x)) (bad:=false) (good:=tr (l.length<=4))
  (λk x Z m _=>by
   simp only[ZcQ,show(k:Int)<(l.length:Int)from by omega,Uk,Zv,Z,Bq,D,QT,e1];by_cases H:0<=x/\x<=((ZB (K3 b)).length:Int)-1
   ·rw[Uc (ZR H)]
    cases srt
    ·simp only[UN,Uj]
     exact⟨λ_=>trivial,λhh=>absurd ⟨H,λq=>by cases q⟩ hh⟩
    ·simp only[Uk]
     by_cases d:(0:Int)<(k:Int)
     ·obtain⟨y,i⟩:∃y,l[k-1]?=some y:=⟨_,Ua (by omega)⟩
      rw[Uc d,Zhm,Zv,i,Bq];constructor
      ·intro hh
       rw[Ue];have:=hh.2 trivial y (by omega) rfl;omega
      ·intro hh
       rw[Uc];apply Uz;intro t;refine hh ⟨H,λ_ Y _ a=>?_⟩;injection a with a
       have:¬x<=y:=t;omega
     ·rw[Ue d]
      exact⟨λ_=>rfl,λhh=>absurd ⟨H,λ_ y e=>by omega⟩ hh⟩
   ·rw[Ue (λq=>H ((Xf _).1 q))]
    exact ⟨λhh=>absurd hh.1 H,λ_=>rfl⟩)
  (λ_=>by
   simp only[ZcQ,Ui,Uj];congr 2;exact (Zm3 (by rw[Ul];omega)).symm),Zef]
 congr 1;refine Xj ?_;unfold Zsk;rw[ZB9];constructor
 ·rintro⟨Q,c⟩
  exact⟨⟨c,JA.1 (λk x Z=>(Q k x Z).1)⟩,λs k x Z=>(Q k x Z).2 s⟩
 ·rintro⟨⟨c,Q⟩,j⟩
  exact⟨λk x Z=>⟨Q x (Ud Z),λs=>j s k x Z⟩,c⟩
theorem Zke (h:Xh b) (e:Zu) (H:sm Jj e):Zdd b e=some (tr (Zni (ZB (K3 b)).length e)):=by
 obtain⟨a1,A,l⟩:=ZCy H;have f:=h.ok.1.few;unfold Zdd;rw[Zeh b h.sm,Bq,Uc (ZR h.ok)];refine ZeO (YO (Ze4 b f _ _ a1) (λ_=>YO (Ze4 b f _ _ A) (λ_=>YO (Ze4 b f _ _ l) (λ_=>(?_:_=some (tr (Zsl (G4 e) (Hd e)))))))) ?_
 ·unfold Zsl
  simp only[QT,Bq];by_cases k1:G4 e=1
  ·rw[Uc k1];exact ZbT (by rw[Ul];omega)
  rw[Ue k1];by_cases k:G4 e=2
  ·rw[Uc k];congr 1;exact Xj (by omega)
  rw[Ue k];by_cases Q:G4 e=3
  ·rw[Uc Q,Uc Q];congr 1;exact Xj (by omega)
  rw[Ue Q];by_cases n:G4 e=4
  ·rw[Uc n];congr 1;exact Xj (by omega)
  ·rw[Ue n,ZT (by omega)]
 ·unfold Zni
  constructor
  ·rintro⟨⟨a,c⟩,⟨d,_⟩,⟨g,i⟩,j⟩;exact⟨a,d,g,c rfl,i rfl,j⟩
  ·rintro⟨a,d,g,c,i,j⟩;exact⟨⟨a,λ_=>c⟩,⟨d,λq=>by cases q⟩,⟨g,λ_=>i⟩,j⟩
structure Wv where
 period:Int
 rise:Int
 fall:Int
def ZxR (c:Zf) (w:Wv):Wv :=
 let w1:Wv:=if 1<GB c then⟨Wq (GB c*w.period),w.rise,Wq (w.rise+Wq (Wq ((GB c).tdiv 2)*w.period))⟩else w
 if Hm c=true then⟨w1.period,w1.fall,w1.rise⟩else w1
def Zvj (l:List Zf):Nat->Int->Wv
 |0,_=>⟨0,0,0⟩
 |n+1,k=>match l[k.toNat]? with
  |none=>⟨0,0,0⟩
  |some c=>if Gm c<0 then⟨GS c,GW c,GY c⟩else ZxR c (Zvj l n (Gm c))
def ZgC (l:List Zf) (k:Int):Wv:=Zvj l (k.toNat+1) k
def Zut (l:List Zf) (m:Int):Prop:=∀(j:Nat) (c:Zf),(j:Int)<m->l[j]?=some c->Gm c<(j:Int)
theorem Zmf (l:List Zf):∀(n:Nat) (k:Int),0<=k->k<n->Zut l (k+1)->Zvj l n k=ZgC l k
 |0,k,a,d,_=>by omega
 |n+1,k,a,d,q=>by
  unfold ZgC;simp only[Zvj];cases e:l[k.toNat]? with
  |none=>rfl
  |some c =>
   simp only;split
   ·rfl
   ·rename_i h
    have t:=q k.toNat c (by omega) e;have J:Zut l (Gm c+1):=λj C g b=>q j C (by omega) b;have e1:=Zmf l n (Gm c) (by omega) (by omega) J;rw[e1];have:∀m:Nat,Gm c<m->m<n+1->Zvj l m (Gm c)=ZgC l (Gm c):=λm Q f=>Zmf l m (Gm c) (by omega) Q J;by_cases H:k.toNat<n+1/\Gm c<(k.toNat:Int)
    ·rw[this k.toNat H.2 H.1]
    ·omega
 termination_by n=>n
theorem Ztc (l:List Zf) (k:Int) (a:0<=k) (c:Zf) (q:l[k.toNat]?=some c) (h:Zut l (k+1)) :
  ZgC l k=if Gm c<0 then⟨GS c,GW c,GY c⟩else ZxR c (ZgC l (Gm c)):=by
 unfold ZgC;rw[Zvj,q];simp only;split
 ·rfl
 ·rename_i H
  have t:=h k.toNat c (by omega) q;rw[Zmf l k.toNat (Gm c) (by omega) t (λj J d b=>h j J (by omega) b)];rfl
def wvI (w:Wv):ZcF:=(w.period,(w.rise,w.fall,()),())
def wvS (w:Wv):YX:=(w.period,w.rise,w.fall,())
def ZrJ (l:List Zf) (k:Int):Prop:=0<=k/\k<l.length/\Zut l (k+1)
theorem ZfG (l:List Zf):∀(n:Nat) (k:Int),ZrJ l k->(∀r,ZaZ n l k=some r->r=wvI (ZgC l k))/\(k<n->ZaZ n l k=some (wvI (ZgC l k)))
 |0,k,g=>⟨λr h=>by simp[ZaZ]at h,λh=>by have:=g.1;omega⟩
 |n+1,k,g=>by
  obtain⟨H,a,f⟩:=g;obtain⟨c,m,b⟩:=Zjv H a;have w:=Ztc l k H c b f;simp only[ZaZ,Zbf,m,Bq];split
  ·rename_i q
   rw[Uc q]at w;rw[w];exact⟨λr h=>by injection h with h;exact h.symm,λ_=>rfl⟩
  ·rename_i q
   rw[Ue q]at w;have t:=f k.toNat c (by omega) b;have i:=ZfG l n (Gm c) ⟨by omega,by omega,λj d s L=>f j d (by omega) L⟩;have J:∀o:Option ZcF,(∀r,o=some r->r=wvI (ZgC l (Gm c)))->∀F:ZcF->Option ZcF,F (wvI (ZgC l (Gm c)))=some (wvI (ZgC l k))->(∀r,o.bind F=some r->r=wvI (ZgC l k))/\(o≠none->o.bind F=some (wvI (ZgC l k))):=by
    intro o p F e;cases o with
    |none=>exact⟨λr h=>(by cases h),λh=>absurd rfl h⟩
    |some x =>
     have:=p x rfl;subst this;rw[Bq,e];exact⟨λr h=>by injection h with h;exact h.symm,λ_=>rfl⟩
   refine And.imp_right (λf u=>f (by rw[i.2 (by omega)];simp)) (J _ i.1 _ ?_);rw[w];simp only[ZxR,wvI];split<;>split<;>simp[*]
variable {l:List Zf} {k:Int}
theorem Zhe (g:ZrJ l k):ZeT l k=some (wvI (ZgC l k)) :=
 Zqx ⟨k.toNat+1,(ZfG l _ k g).2 (by have:=g.1;omega)⟩ (λn r h=>(ZfG l n k g).1 r h)
theorem Zgy (l:List Zf):∀(n:Nat) (k:Int),ZrJ l k->(∀r,Zci n l k=some r->r=wvS (ZgC l k))/\(k<n->Zci n l k=some (wvS (ZgC l k)))
 |0,k,g=>⟨λr h=>by simp[Zci]at h,λh=>by have:=g.1;omega⟩
 |n+1,k,g=>by
  obtain⟨H,a,f⟩:=g;obtain⟨c,m,b⟩:=Zjv H a;have w:=Ztc l k H c b f;simp only[Zci,Zch,m,Bq];split
  ·rename_i q
   rw[Uc q]at w;rw[w];exact⟨λr h=>by injection h with h;exact h.symm,λ_=>rfl⟩
  ·rename_i q
   rw[Ue q]at w;have t:=f k.toNat c (by omega) b;have i:=Zgy l n (Gm c) ⟨by omega,by omega,λj d s L=>f j d (by omega) L⟩;have J:∀o:Option YX,(∀r,o=some r->r=wvS (ZgC l (Gm c)))->∀F:YX->Option YX,F (wvS (ZgC l (Gm c)))=some (wvS (ZgC l k))->(∀r,o.bind F=some r->r=wvS (ZgC l k))/\(o≠none->o.bind F=some (wvS (ZgC l k))):=by
    intro o p F e;cases o with
    |none=>exact⟨λr h=>(by cases h),λh=>absurd rfl h⟩
    |some x =>
     have:=p x rfl;subst this;rw[Bq,e];exact⟨λr h=>by injection h with h;exact h.symm,λ_=>rfl⟩
   refine And.imp_right (λf u=>f (by rw[i.2 (by omega)];simp)) (J _ i.1 _ ?_);rw[w];simp only[ZxR,wvS];split<;>split<;>simp[*,Int.mul_comm]
theorem Zh9 (g:ZrJ l k):Zgd l k=some (wvS (ZgC l k)) :=
 Zqx ⟨k.toNat+1,(Zgy l _ k g).2 (by have:=g.1;omega)⟩ (λn r h=>(Zgy l n k g).1 r h)
def ZiV (c:Zf):Bool:=decide (0<=Gs c)&&decide (0<=G2 c)&&decide (G2 c<=G8 c)&&decide (G8 c<=100000)&&within (Ht c) 0 100000
def ZkV (c:Zf):Bool:=within (GS c) 2 100000&&within (GW c) 0 (Wq (GS c-1))&&within (GY c) 0 (Wq (GS c-1))&&decide (GW c≠GY c)&&decide (GB c=1)&&!Hm c
def Zyp (l:List Zf) (k:Int) (c:Zf):Bool:=within (Gm c) 0 (Wq (k-1))&&within (GB c) 1 8&&decide (GS c=0)&&decide (GW c=0)&&decide (GY c=0)&&decide ((ZgC l k).period<=100000)
def Zgi (l:List Zf) (k:Int) (c:Zf):Bool:=ZiV c&&(if Gm c=-1 then ZkV c else Zyp l k c)
variable (c:Zf)
theorem ZlN:Zak c=some (ZkV c):=by
 unfold Zak;simp only[Jb,Bq];repeat' split
 all_goals simp[ZkV, *]
theorem Zk5:ZeG c=some (ZkV c):=by
 unfold ZeG;simp only[JZ,Bq];repeat' split
 all_goals simp[ZkV, *]
theorem ZyP:ZiV c=(decide (0<=Gs c)&&within (G2 c) 0 100000&&within (G8 c) (G2 c) 100000&&within (Ht c) 0 100000):=by
 rw[Ko];simp only[ZiV,within,Up,Ul];omega
theorem Zm1 (q:(GA c).length<=4611686018427387904):Zf6 c=some (ZaK (GA c)&&ZiV c):=by
 unfold Zf6;rw[Zcf _ q,ZyP];simp only[JZ,Bq];repeat' split
 all_goals simp[*]
def ZpP (l:List Zf) (m:Int):Prop:=∀(j:Nat) (c:Zf),(j:Int)<m->l[j]?=some c->Zgi l j c=true
variable {c:Zf}
theorem Zsp {k:Nat} (h:Zgi l k c=true) (H:(k:Int)<=1000000:=by omega):Gm c=-1\/0<=Gm c/\Gm c<k:=by
 unfold Zgi at h;simp only[Up]at h;split at h
 ·exact .inl (by assumption)
 ·have f:=h.2
  unfold Zyp at f;simp only[within,Up,Ul]at f;rw[QP]at f;omega
theorem ZpP.src {m:Int} (h:ZpP l m) (Q:m<=1000000):Zut l m:=by
 intro j c b q;have:=Zsp (h j c b q);omega
theorem Zpe (a:0<=k) (b:k<l.length) (f:k<=1000) (h:ZpP l k) (q:l[k.toNat]?=some c) (s:Gm c<k):ZrJ l k:=by
 refine⟨a,b,λj d e L=>?_⟩;by_cases H:(j:Int)<k
 ·exact h.src (by omega) j d H L
 ·have:j=k.toNat:=by omega
  subst this;rw[q]at L;injection L with L;subst L
  omega
theorem ZpK (x:0<=k) (H:k<=1000) (h:within s 0 (Wq (k-1))=true):0<=s/\s<k:=by
 rw[QD,QP]at h;omega
theorem Zuy (l:List Zf) (k:Int) (c:Zf):Zgi l k c=(decide (0<=Gs c)&&decide (0<=G2 c)&&decide (G2 c<=G8 c)&&decide (G8 c<=100000)&&within (Ht c) 0 100000 &&
  (if Gm c=-1 then ZkV c else within (Gm c) 0 (Wq (k-1))&&within (GB c) 1 8&&decide (GS c=0)&&decide (GW c=0)&&decide (GY c=0)&&decide ((ZgC l k).period<=100000))):=rfl
theorem ZnL (H:0<=k) (e:k<l.length) (b:k<=1000) (h:ZpP l k) (q:l[k.toNat]?=some c):ZgS l k=some (Zgi l k c):=by
 have w:within (Gm c) 0 (Wq (k-1))=true->ZeT l k=some (wvI (ZgC l k)):=λhh=>Zhe (Zpe H e b h q (ZpK H b hh).2);unfold ZgS;rw[Qt H q,Zuy];clear H e b h q;simp only[Jb,Bq,ZlN];generalize ZkV c=p;generalize Gs c=v1 at *;generalize G2 c=v at *;generalize G8 c=v3 at *;generalize Ht c=M at *;generalize Gm c=V at *;generalize GB c=f at *;generalize GS c=g at *;generalize GW c=m at *;generalize GY c=n at *;by_cases a1:v1<0
 ·have:¬0<=v1:=by omega
  simp[a1,this]
 by_cases a:v<0
 ·have:¬0<=v:=by omega
  simp[a1,a,this]
 by_cases i:v3<v
 ·have:¬v<=v3:=by omega
  simp[a1,a,i,this]
 by_cases j:100000<v3
 ·have:¬v3<=100000:=by omega
  simp[a1,a,i,j,this]
 rw[Ue a1,Ue a,Ue i,Ue j,UJ (show 0<=v1 by omega),UJ (show 0<=v by omega),UJ (show v<=v3 by omega),UJ (show v3<=100000 by omega)];cases within M 0 100000
 ·simp
 simp only[Uk,KE];by_cases D:V=-1
 ·rw[Uc D,Uc D]
 rw[Ue D,Ue D];cases d:within V 0 (Wq (k-1))
 ·simp
 rw[w d];simp only[Uk,KE];cases within f 1 8
 ·simp
 by_cases G:g=0
 ·by_cases I:m=0
  ·by_cases J:n=0
   ·simp[G,I,J,wvI]
   ·simp[G,I,J]
  ·simp[G,I]
 ·simp[G]
def Zih (l:List Zf):List (List UInt8):=l.map GA
def ZfS (l:List Zf):Prop:=l.length<=6/\ZpP l l.length/\V4 (Zih l) l.length
theorem ZmO (l:List Zf):ZfV l=some (tr (ZfS l)):=by
 unfold ZfV;split
 ·rename_i h
  rw[ZT];intro hh;have:=hh.1;omega
 ·rename_i F
  refine YC l.length (λk v=>v.2.1=(k:Int)/\v.1=Zih (l.take k)/\ZpP l k) _ ⟨rfl,rfl,λj s g=>by omega⟩ ?_ ?_
  ·rintro k ⟨N,i,⟨⟩⟩ m ⟨a,H,f⟩
   simp only at a H;subst a;have Z:l[k]?=some l[k]:=Ua m;generalize l[k]=x at Z;simp only[Zdl,Zv,Z,Bq,show(k:Int)<(l.length:Int)from by omega,Uk,Yy (show(-9223372036854775808:Int)<=(k:Int)+1 by omega)];rw[ZnL (by omega) (by omega) (by omega) f (by simpa using Z),Bq];split
   ·rename_i c
    have n:N.length=k:=by rw[H];simp[Zih];omega
    rw[Zk (by simp only[UV];omega)];refine .inl ⟨_,rfl,by simp,by rw[H,XF Z];simp[Zih],λj d g L=>?_⟩;by_cases e:(j:Int)<k
    ·exact f j d e L
    ·have:j=k:=by omega
     subst this;rw[Z]at L;injection L with L;subst L
     exact c
   ·rename_i c
    right;rw[ZT];intro hh;exact c (hh.2.1 k x (by omega) Z)
  ·rintro⟨N,i,⟨⟩⟩ ⟨a,H,f⟩
   simp only at a H;subst a;rw[Ur]at H;have n:(Zih l).length=l.length:=by simp[Zih]
   subst H;simp only[Zdl,Ui,Uj];rw[VK _,Bq,n];congr 2;by_cases b:V4 (Zih l) l.length
   ·rw[ZR b,ZR ⟨by omega,f,b⟩]
   ·rw[ZT b,ZT (λhh=>b hh.2.2)]
def ZwZ (l:List Zf):Prop:=∀c∈l,(GA c).length<=4611686018427387904
variable {k:Nat}
theorem Zi9 (h:l[k]?=some c):(Zih l)[k]?=some (GA c):=by simp[Zih,h]
theorem Zkd (b:k<l.length) (F:l.length<=6) (q:l[k]?=some c) (a:ZpP l k) (f:ZiV c=true) :
  Zt (λv=>Za2 l (k:Int) c v.1) ((0:Int),()) =
   some (if GA c∈(Zih l).take k then .inr false else if Zgi l k c=true then .inl ((k:Int)+1,())else .inr false):=by
 refine YC k (λm v=>v.1=(m:Int)/\GA c ∉ (Zih l).take m) _ ⟨rfl,by simp⟩ ?_ ?_
 ·rintro m ⟨i,⟨⟩⟩ Q ⟨H,W⟩
  simp only at H;subst H;have Z:l[m]?=some l[m]:=Ua (by omega);generalize l[m]=x at Z;have n:=Zi9 Z;simp only[Za2,Zv,Z,Bq,show(m:Int)<(k:Int)from by omega,Uk,Yy (show(-9223372036854775808:Int)<=(m:Int)+1 by omega)];split
  ·rename_i e
   right;rw[Uc];rw[<-e];refine UA.2 ⟨m,?_⟩;rw[UB,Uc Q,n]
  ·rename_i e
   refine .inl ⟨_,rfl,by simp,?_⟩;rw[XF n];simp only[Uu,Ut,not_or];exact⟨W,λh=>e h.symm⟩
 ·rintro⟨i,⟨⟩⟩ ⟨H,W⟩
  simp only at H;subst H;have w:within (Gm c) 0 (Wq ((k:Int)-1))=true->Zgd l k=some (wvS (ZgC l k)):=λhh =>
   Zh9 (Zpe (by omega) (by omega) (by omega) a (by simpa using q) (ZpK (by omega) (by omega) hh).2)
  rw[Ue W];simp only[Za2,Ui,Uj,Zk5,JZ,Bq,Yy (show(-9223372036854775808:Int)<=(k:Int)+1 by omega)];have e:Zgi l k c=(ZiV c&&_):=rfl;rw[e,f,KE];by_cases a1:Gm c=-1
  ·rw[Uc a1,Uc a1]
   cases ZkV c<;>simp
  rw[Ue a1,Ue a1];unfold Zyp;cases d:within (Gm c) 0 (Wq ((k:Int)-1))
  ·simp
  rw[w d];simp only[Uk,KE,Bq];cases within (GB c) 1 8
  ·simp
  by_cases G:GS c=0
  ·by_cases I:GW c=0
   ·by_cases J:GY c=0
    ·by_cases r:100000<(ZgC l k).period
     ·have:¬(ZgC l k).period<=100000:=by omega
      simp[G,I,J,wvS,r,this]
     ·have:(ZgC l k).period<=100000:=by omega
      simp[G,I,J,wvS,r,this]
    ·simp[G,I,J]
   ·simp[G,I]
  ·simp[G]
theorem ZfI (l:List Zf) (W:ZwZ l) (p:l.length<=4611686018427387904:=by omega):ZcA l=some (tr (ZfS l)):=by
 unfold ZcA;refine YC l.length (λk v=>v.1=(k:Int)/\(0<k->l.length<=6)/\ZpP l k/\V4 (Zih l) k) _ ⟨rfl,by omega,λj s m=>by omega,λj s m=>by omega⟩ ?_ ?_
 ·rintro k ⟨i,⟨⟩⟩ b ⟨H,_,a,n⟩
  simp only at H;subst H;have Z:l[k]?=some l[k]:=Ua b;generalize l[k]=x at Z;simp only[Zds,Zv,Z,Bq,show(k:Int)<(l.length:Int)from by omega,Uk];split
  ·rename_i F
   have h:l.length<=6:=by omega
   rw[Zm1 _ (W x (Ud Z)),Bq];split
   ·rename_i g
    simp only[Up]at g;rw[Zkd b h Z a g.2];split
    ·rename_i Q
     right;rw[ZT];exact λhh=>(hh.2.2 k (GA x) b (Zi9 Z)).2 Q
    ·rename_i Q
     split
     ·rename_i c
      refine .inl ⟨_,rfl,by simp,λ_=>h,λj d m L=>?_,λj s m q=>?_⟩
      ·by_cases e:(j:Int)<k
       ·exact a j d e L
       ·have:j=k:=by omega
        subst this;rw[Z]at L;injection L with L;subst L
        exact c
      ·by_cases e:j<k
       ·exact n j s e q
       ·have:j=k:=by omega
        subst this;rw[Zi9 Z]at q;injection q with q;subst q
        exact⟨g.1,Q⟩
     ·rename_i c
      right;rw[ZT];exact λhh=>c (hh.2.1 k x (by omega) Z)
   ·rename_i g
    right;rw[ZT];intro hh;have o:=(hh.2.2 k (GA x) b (Zi9 Z)).1;have f:=hh.2.1 k x (by omega) Z;unfold Zgi at f;simp only[Up]at f;exact g (by rw[o,f.1];rfl)
  ·rename_i F
   right;rw[ZT (λhh=>F (by have:=hh.1;omega))];simp[F]
 ·rintro⟨i,⟨⟩⟩ ⟨H,_,a,n⟩
  simp only at H;subst H;simp only[Zds,Ui,Uj];by_cases F:(l.length:Int)<=6
  ·rw[ZR ⟨by omega,a,n⟩,UJ F]
  ·rw[ZT (λhh=>F (by have:=hh.1;omega)),decide_eq_false F]
structure ZFZ (w:Wv):Prop where
 p1:2<=w.period
 p2:w.period<=100000
 r1:0<=w.rise
 r2:w.rise<w.period
 f1:0<=w.fall
 f2:w.fall<w.period
theorem ZC0 {l:List Zf} {m:Int} (p:m<=6) (h:ZpP l m):∀(n:Nat) (k:Int),k<n->0<=k->k<m->k<l.length->ZFZ (ZgC l k)
 |0,k,e,o,_,_=>by omega
 |n+1,k,e,o,x,y=>by
  obtain⟨c,q⟩:∃c,l[k.toNat]?=some c:=⟨_,Ua (by omega)⟩;have H:=h k.toNat c (by omega) q;rw[show(k.toNat:Int)=k by omega]at H;have a:Zut l (k+1):=λj d z L=>h.src (by omega) j d (by omega) L;have b:=Ztc l k o c q a;simp only[Zgi,Up]at H;obtain⟨r,H⟩:=H;split at H
  ·rename_i C
   rw[Qe]at b;simp only[ZkV,within,Up,Ul]at H;obtain⟨⟨⟨⟨⟨⟨a1,f⟩,g,A⟩,D,F⟩,_⟩,_⟩,_⟩:=H;rw[QP]at A F;rw[b];constructor<;>simp only<;>omega
  ·simp only[Zyp,within,Up,Ul]at H
   obtain⟨⟨⟨⟨⟨⟨a1,f⟩,g,A⟩,_⟩,_⟩,_⟩,D⟩:=H;rw[QP]at f;rw[Qu]at b;have i:=ZC0 p h n (Gm c) (by omega) a1 (by omega) (by omega);have b1:=i.p1;have N:=i.p2;have P:=i.r1;have B:=i.r2;have T:=i.f1;have u:=i.f2;rw[b]at D ⊢;clear b i;simp only[ZxR]at D ⊢;generalize ZgC l (Gm c)=w at *;generalize GB c=v at *;have Q:0<=v.tdiv 2/\v.tdiv 2<=4:=by
    rw[U8 (by omega)];omega
   have E:2*1<=v*w.period/\v*w.period<=8*100000:=by
    constructor
    ·have:=Int.mul_le_mul g b1 (by omega) (by omega);omega
    ·exact Int.mul_le_mul A N (by omega) (by omega)
   have G:0<=v.tdiv 2*w.period/\v.tdiv 2*w.period<=4*100000:=by
    constructor
    ·exact Hw Q.1 (by omega)
    ·exact Int.mul_le_mul Q.2 N (by omega) (by omega)
   have s:1<v->v.tdiv 2*w.period<=v*w.period-w.period:=by
    intro L;have e:v.tdiv 2<=v-1:=by rw[U8 (by omega)];omega
    have:=Kq e (show 0<=w.period by omega);rw[Int.sub_mul,Int.one_mul]at this;exact this
   have t:1<v->w.period<=v*w.period:=by
    intro L;have:=Kq (show(1:Int)<=v by omega) (show 0<=w.period by omega);rw[Int.one_mul]at this;exact this
   rw[QP (n:=v*w.period),QP (n:=v.tdiv 2),QP (n:=v.tdiv 2*w.period),QP (n:=w.rise+v.tdiv 2*w.period)]at D ⊢;by_cases c1:1<v<;>by_cases c2:Hm c=true
   all_goals simp only[c1,c2,Uk,Uj,UN,true_implies,false_implies]at D s t ⊢
   all_goals (constructor<;>(try simp only)<;>omega)
theorem ZGp {k:Int} (h:ZfS l) (a:0<=k:=by omega) (H:k<l.length:=by omega):ZFZ (ZgC l k):=by
 have F:=h.1;exact ZC0 (by omega) h.2.1 (k.toNat+1) k (by omega) a H H
theorem Zuc {k:Int} (h:ZfS l) (H:0<=k:=by omega) (a:k<l.length:=by omega):ZrJ l k :=
 ⟨H,a,λj c b q=>h.2.1.src (by have:=h.1;omega) j c (by omega) q⟩
variable {ρ:Type} {P Q:Prop} {m:Option ρ} {a b:ρ}
theorem Zvp {_:Decidable P} (H:P->m=some (sel Q a b)):(if P then m else some b)=some (sel (P/\Q) a b):=by
 by_cases h:P
 ·rw[Uc h,H h]
  by_cases q:Q
  ·rw[Xr q,Xr ⟨h,q⟩]
  ·rw[Y7 q,Y7 (λx=>q x.2)]
 ·rw[Ue h,Y7 (λq=>h q.1)]
theorem ZjK {_:Decidable P} (H:¬P->m=some (sel Q a b)):(if P then some b else m)=some (sel (¬P/\Q) a b):=by
 by_cases h:P
 ·rw[Uc h,Y7 (λq=>q.1 h)]
 ·rw[Ue h,H h]
  by_cases q:Q
  ·rw[Xr q,Xr ⟨h,q⟩]
  ·rw[Y7 q,Y7 (λx=>q x.2)]
theorem Zhy {c:Option Bool} (h:c=some (tr P)) (H:P->m=some (sel Q a b)):(c.bind λx=>if x=true then m else some b)=some (sel (P/\Q) a b):=by
 rw[h,Bq];by_cases g:P
 ·rw[Uc (ZR g),H g]
  by_cases q:Q
  ·rw[Xr q,Xr ⟨g,q⟩]
  ·rw[Y7 q,Y7 (λx=>q x.2)]
 ·rw[Ue (by rw[ZT g];simp),Y7 (λq=>g q.1)]
theorem ZzC:some a=some (sel True a b):=by rw[Xr trivial]
theorem ZjJ (h:m=some (sel P a b)) (q:P<->Q):m=some (sel Q a b):=by rw[h,propext q]
theorem Zuk (h:m=some (sel P a b)):(P->m=some a)/\(¬P->m=some b):=⟨λq=>by rw[h,Xr q],λq=>by rw[h,Y7 q]⟩
def ZpO (s:Zz):Prop:=K8 s<=Ga s/\-100000<=K8 s/\Ga s<=100000
def ZzK (l:List Pl) (drv:Bool) (i:Int):Prop:=∃p,atI l i=some p/\p.1<0/\p.2.2.2.1=drv
def ZjM (p:List Pl) (n:Int) (drv:Bool) (l:List Zh) (k:Nat) (x:Zh):Prop :=
 (0<=Gj x/\Gj x<=(p.length:Int)-1)/\ZzK p drv (Gj x)/\(∀y,0<k->l[k-1]?=some y->Gj y<Gj x)/\
 (0<=GQ x/\GQ x<=n-1)/\ZpO (Gt x)/\ZcT (G3 x)/\(drv=false->K8 (G3 x)=0/\Ga (G3 x)=0)
def Zif (p:List Pl) (n:Int) (drv:Bool) (l:List Zh):Prop:=ZeM l (ZjM p n drv l)
theorem ZiJ (i:Int) (W:(ZG.ZB v).length<=1048576):Jg v i=some (tr (0<=i/\i<=((ZG.ZB v).length:Int)-1)):=by
 unfold Jg;rw[show Yt (ZG.ZB v)=some ((ZG.ZB v).length:Int)from rfl,Bq,QP];exact Zdj (Qs _ _ _)
theorem Zng {s:Zz}:(Decidable.decide (K8 s=(0:Int))&&Decidable.decide (Ga s=(0:Int)))=true<->K8 s=0/\Ga s=0:=by simp
variable {drv:Bool}
theorem Zfo {l:List Pl} {p:Pl} (h:atI l i=some p):ZzK l drv i<->¬(0:Int)<=p.1/\(p.2.2.2.1==drv)=true:=by
 unfold ZzK;rw[h,Kb];constructor
 ·rintro⟨q,Q,a,c⟩
  injection Q with Q
  subst Q;exact⟨by omega,c⟩
 ·rintro⟨Q,a⟩
  exact⟨p,rfl,by omega,a⟩
variable {x:Zh}
theorem Zi6 {l:List Zh} {y:Zh} (H:0<k) (e:l[k-1]?=some y):(∀y,0<k->l[k-1]?=some y->Gj y<Gj x)<->¬Gj x<=Gj y:=by
 constructor
 ·intro h
  have:=h y H e;omega
 ·intro h z _ S
  rw[e]at S;injection S with S
  subst S;omega
theorem ZhG {l:List Zh} (H:¬0<k):(∀y,0<k->l[k-1]?=some y->Gj y<Gj x)<->True:=⟨λ_=>trivial,λ_ y h=>absurd h H⟩
theorem ZfQ (l:List Zh) (drv:Bool) (n:Int) (h:sm (.sl Jz) l) (W:(ZG.ZB v).length<=1048576) (a:0<=n:=by omega) (d:n<=1048576:=by omega):Vi v l drv n=some (tr (Zif (ZG.ZB v) n drv l)):=by
 have s:=ZK h;have e1:Wq (n-1)=n-1:=QP;unfold Vi;rw[QF (YV h) (ZjM (ZG.ZB v) n drv l) (bad:=false) (good:=true)
  (λk x Z b _=>by
   refine Zuk ?_;simp only[V6,show(k:Int)<(l.length:Int)from by omega,Uk,Zv,Z,Bq,e1];refine ZjJ (Q:=ZjM (ZG.ZB v) n drv l k x) (P:=(0<=Gj x/\Gj x<=((ZG.ZB v).length:Int)-1)/\ZjM (ZG.ZB v) n drv l k x) (Zhy (ZiJ v _ W) (λg=>?_)) ⟨λq=>q.2,λq=>⟨q.1,q⟩⟩;obtain⟨p,c,_⟩:=Zfk g.1 (show Gj x<((ZG.ZB v).length:Int) by omega);rw[c,Bq];by_cases H:0<k
   ·obtain⟨y,e⟩:∃y,l[k-1]?=some y:=⟨_,Ua (by omega)⟩
    rw[Uc (show(0:Int)<(k:Int) by omega),Zhm,Zv,e,Bq];cases drv
    ·simp only[UN,Uj]
     refine ZjJ (ZjK (λ_=>Zvp (λ_=>ZjK (λ_=>Zhy (Qs _ _ _) (λ_=>Zhy (Ja _) (λ_=>ZjK (λ_=>ZjK (λ_=>Zvp (λ_=>ZzC))))))))) ?_;unfold ZjM;rw[Zfo c,Zi6 H e,Zng];unfold ZpO ZcT ZaH;grind
    ·simp only[Uk]
     refine ZjJ (ZjK (λ_=>Zvp (λ_=>ZjK (λ_=>Zhy (Qs _ _ _) (λ_=>Zhy (Ja _) (λ_=>ZjK (λ_=>ZjK (λ_=>Zhy (ZfD _) (λ_=>ZzC))))))))) ?_;unfold ZjM;rw[Zfo c,Zi6 H e];unfold ZpO ZcT ZaH;grind
   ·rw[Ue (show ¬(0:Int)<(k:Int) by omega)]
    cases drv
    ·simp only[UN,Uj]
     refine ZjJ (ZjK (λ_=>Zvp (λ_=>Zhy (Qs _ _ _) (λ_=>Zhy (Ja _) (λ_=>ZjK (λ_=>ZjK (λ_=>Zvp (λ_=>ZzC)))))))) ?_;unfold ZjM;rw[Zfo c,ZhG H,Zng];unfold ZpO ZcT ZaH;grind
    ·simp only[Uk]
     refine ZjJ (ZjK (λ_=>Zvp (λ_=>Zhy (Qs _ _ _) (λ_=>Zhy (Ja _) (λ_=>ZjK (λ_=>ZjK (λ_=>Zhy (ZfD _) (λ_=>ZzC)))))))) ?_;unfold ZjM;rw[Zfo c,ZhG H];unfold ZpO ZcT ZaH;grind)
  (λ_=>by simp only[V6,Ui,Uj]),Zhz]
 rfl
variable (b:Zc) (s:Zo)
theorem ZfR (l:List Zh) (drv:Bool) (h:sm (.sl Jz) l) (f:Few (K3 b)) (d:(Gb s).length<=1048576):ZaF b s l drv=some (tr (Zif (ZB (K3 b)) ((Gb s).length:Int) drv l)):=by
 have j:=ZK h;have a:=YT f;have e1:Wq (((Gb s).length:Int)-1)=((Gb s).length:Int)-1:=QP;have E:Wq (((ZB (K3 b)).length:Int)-1)=((ZB (K3 b)).length:Int)-1:=QP;unfold ZaF;rw[Y5 _ f,Bq];rw[QF (YV h) (ZjM (ZB (K3 b)) ((Gb s).length:Int) drv l) (bad:=false) (good:=true)
  (λk x Z i _=>by
   refine Zuk ?_;simp only[Zbb,show(k:Int)<(l.length:Int)from by omega,Uk,Zv,Z,Bq,e1,E];refine ZjJ (Q:=ZjM (ZB (K3 b)) ((Gb s).length:Int) drv l k x) (P:=(0<=Gj x/\Gj x<=((ZB (K3 b)).length:Int)-1)/\ZjM (ZB (K3 b)) ((Gb s).length:Int) drv l k x) (Zhy (QT _ _ _) (λg=>?_)) ⟨λq=>q.2,λq=>⟨q.1,q⟩⟩;obtain⟨p,c,_⟩:=Zfk g.1 (show Gj x<((ZB (K3 b)).length:Int) by omega);rw[c];simp only[Bq];by_cases H:0<k
   ·obtain⟨y,e⟩:∃y,l[k-1]?=some y:=⟨_,Ua (by omega)⟩
    rw[Uc (show(0:Int)<(k:Int) by omega),Zhm,Zv,e,Bq];cases drv
    ·simp only[UN,Uj]
     refine ZjJ (ZjK (λ_=>Zhy (QT _ _ _) (λ_=>ZjK (λ_=>Zvp (λ_=>ZjK (λ_=>ZjK (λ_=>ZjK (λ_=>Zhy (Zbh _) (λ_=>Zvp (λ_=>ZzC)))))))))) ?_;unfold ZjM;rw[Zfo c,Zi6 H e,Zng];unfold ZpO ZcT;grind
    ·simp only[Uk]
     refine ZjJ (ZjK (λ_=>Zhy (QT _ _ _) (λ_=>ZjK (λ_=>Zvp (λ_=>ZjK (λ_=>ZjK (λ_=>ZjK (λ_=>Zhy (Zbh _) (λ_=>ZzC))))))))) ?_;unfold ZjM;rw[Zfo c,Zi6 H e];unfold ZpO ZcT;grind
   ·rw[Ue (show ¬(0:Int)<(k:Int) by omega)]
    cases drv
    ·simp only[UN,Uj]
     refine ZjJ (Zhy (QT _ _ _) (λ_=>ZjK (λ_=>Zvp (λ_=>ZjK (λ_=>ZjK (λ_=>ZjK (λ_=>Zhy (Zbh _) (λ_=>Zvp (λ_=>ZzC))))))))) ?_;unfold ZjM;rw[Zfo c,ZhG H,Zng];unfold ZpO ZcT;grind
    ·simp only[Uk]
     refine ZjJ (Zhy (QT _ _ _) (λ_=>ZjK (λ_=>Zvp (λ_=>ZjK (λ_=>ZjK (λ_=>ZjK (λ_=>Zhy (Zbh _) (λ_=>ZzC)))))))) ?_;unfold ZjM;rw[Zfo c,ZhG H];unfold ZpO ZcT;grind)
  (λ_=>by simp only[Zbb,Ui,Uj]),Zhz]
 rfl
theorem Zxp {s:Zo} (h:sm Zc4 s):sm (.sl ZbL) (Gb s)/\sm (.sl Jz) (GN s)/\sm (.sl Jz) (Hn s)/\sm (.sl Jj) (Gz s)/\sm (.sl Qf) (GV s):=by
 refine⟨?_,?_,?_,?_,?_⟩;all_goals first|exact h.1|exact h.2.1|exact h.2.2.1|exact h.2.2.2.1|exact h.2.2.2.2.1
theorem Zy2 (h:sm (.sl ZbL) l):ZwZ l:=by
 intro c q;have:=Zoj h q;refine Zgz ?_;first|exact this.1|exact this.2.1
def ZjN (l:List Pl) (s:Zo):Prop :=
 ZfS (Gb s)/\(∀c∈Gb s,Gs c<(l.length:Int))/\Zif l ((Gb s).length:Int) true (GN s)/\Zif l ((Gb s).length:Int) false (Hn s)/\
 (Gz s).length<=6/\(∀e∈Gz s,Zni l.length e)/\Zhk (GV s)
theorem ZfS.place (h:ZfS l) (q:c∈l):0<=Gs c:=by
 obtain⟨k,H⟩:=UA.1 q;have d:=h.2.1 k c (by have:=(Ub.1 H).1;omega) H;unfold Zgi ZiV at d;simp only[Up,Ul]at d;exact d.1.1.1.1.1
theorem ZnM (h:sm Zc4 s) (W:(ZG.ZB v).length<=1048576):Zcx v s=some (tr (ZjN (ZG.ZB v) s)):=by
 obtain⟨a1,i,m,A,D⟩:=Zxp h;have s1:=ZK a1;unfold Zcx;rw[show Zbt (Gb s)=some ((Gb s).length:Int)from rfl,Bq];refine ZeO (YO (ZmO _) (λn=>Ztm (P:=¬∀c∈Gb s,Gs c<((ZG.ZB v).length:Int)) ?_ (λ_=>YO (ZfQ v _ true _ i W) (λ_=>YO (ZfQ v _ false _ m W) (λ_=>Zgf (λ_=>Ztm (P:=¬∀e∈Gz s,Zni (ZG.ZB v).length e) ?_ (λ_=>(?_:_=some (tr (Zhk (GV s))))))))))) ?_
 ·rw[Qr (YV a1) (λc=>!tr (0<=Gs c/\Gs c<=((ZG.ZB v).length:Int)-1)) (λc _=>by
   unfold VX;show (Jg v (Gs c)).bind _=_;rw[ZiJ v _ W];rfl)]
  refine ZbT ?_;rw[KN];constructor
  ·rintro⟨c,q,b⟩ H
   have:=H c q;have k:=n.place q;rw[ZR (by omega)]at b;cases b
  ·intro hh
   apply Uz;intro y;refine hh (λc q=>?_);apply Uz;intro t;exact y ⟨c,q,by rw[ZT (by omega)];rfl⟩
 ·rw[XH (YV A) (λe=>!tr (Zni (ZG.ZB v).length e)) (λe o=>by
   unfold VY;show (Vy v e).bind _=_;rw[Zhs v e (Zoj A o) W];rfl)]
  refine ZbT ?_;rw[KN];constructor
  ·rintro⟨c,q,b⟩ H
   rw[ZR (H c q)]at b;cases b
  ·intro hh
   apply Uz;intro y;refine hh (λc q=>?_);apply Uz;intro t;exact y ⟨c,q,by rw[ZT t];rfl⟩
 ·by_cases k:(GV s).length=0
  ·rw[Qe]
   refine ZbT ⟨λ_=>?_,λ_=>rfl⟩;have:GV s=[]:=UC k;rw[this];exact⟨by simp,λc q=>(by cases q),λj _ p=>(by simp at p)⟩
  ·rw[Qu,Zjm _ D k];rfl
 ·unfold ZjN
  simp only[Classical.not_not];constructor
  ·rintro⟨Q,a,d,f,r,g,l⟩;exact⟨Q,a,d,f,by omega,g,l⟩
  ·rintro⟨Q,a,d,f,r,g,l⟩;exact⟨Q,a,d,f,by omega,g,l⟩
def Znj (b:Zc) (s:Zo):Prop:=ZjL b/\ZjN (ZB (K3 b)) s
theorem ZiH (h:sm Xi b) (q:sm Zc4 s):Zfm b s=some (tr (Znj b s)):=by
 unfold Zfm;refine YO (ZbX b h) (λj=>?_);obtain⟨v,d,f,_⟩:=ZsT ⟨j,h⟩;have l:=YT j.1.few;rw[d,Bq,ZnM v s q (by rw[f];omega),f];rfl
theorem Zol (H:sm Xi b) (r:sm Zc4 s):Zg2 b s=some (tr (Znj b s)):=by
 obtain⟨a1,A,m,j,D⟩:=Zxp r;have s1:=ZK a1;have S:=ZK j;unfold Zg2;refine ZeO (YO (Zeh b H) (λh=>YO (ZfI _ (Zy2 a1)) (λy=>Zgf (λ_=>YO (Zk6 _ D) (λ_=>(?_:_=some (tr (ZeM (Gb s) (λ_ c=>Gs c<((ZB (K3 b)).length:Int))/\ZeM (Gz s) (λ_ e=>Zni (ZB (K3 b)).length e)/\Zif (ZB (K3 b)) ((Gb s).length:Int) true (GN s)/\Zif (ZB (K3 b)) ((Gb s).length:Int) false (Hn s))))))))) ?_
 ·have f:=h.1.few
  have p:=YT f;rw[QF (YV a1) (λ_ c=>Gs c<((ZB (K3 b)).length:Int)) (bad:=false) (good:=tr (ZeM (Gz s) (λ_ e=>Zni (ZB (K3 b)).length e)/\Zif (ZB (K3 b)) ((Gb s).length:Int) true (GN s)/\Zif (ZB (K3 b)) ((Gb s).length:Int) false (Hn s)))
   (λk c Z o _=>by
    simp only[Zel,show(k:Int)<((Gb s).length:Int)from by omega,Uk,Zv,Z,Bq,Y5 _ f];constructor
    ·intro hh;rw[Qu]
    ·intro hh;rw[Qe])
   (λ_=>by
    simp only[Zel,Ui,Uj];rw[QF (YV j) (λ_ e=>Zni (ZB (K3 b)).length e) (bad:=.inr false) (good:=.inr (tr (Zif (ZB (K3 b)) ((Gb s).length:Int) true (GN s)/\Zif (ZB (K3 b)) ((Gb s).length:Int) false (Hn s))))
     (λk e Z o _=>by
      simp only[Zek,show(k:Int)<((Gz s).length:Int)from by omega,Uk,Zv,Z,Bq,Zke b ⟨h,H⟩ e (Zg1 j Z)];constructor
      ·intro hh;rw[Uc (ZR hh)]
      ·intro hh;rw[Ue (λq=>hh ((Xf _).1 q))])
     (λ_=>by
      simp only[Zek,Ui,Uj,ZfR b s _ _ A f s1,ZfR b s _ _ m f s1,Bq];by_cases Q:Zif (ZB (K3 b)) ((Gb s).length:Int) true (GN s)
      ·rw[Uc (ZR Q)]
       congr 3;exact Xj ⟨λq=>⟨Q,q⟩,λq=>q.2⟩
      ·rw[Ue (λq=>Q ((Xf _).1 q)),ZT (λq=>Q q.1)])]
    congr 1;by_cases Q:ZeM (Gz s) (λ_ e=>Zni (ZB (K3 b)).length e)
    ·rw[Xr Q]
     congr 1;exact Xj ⟨λq=>⟨Q,q⟩,λq=>q.2⟩
    ·rw[Y7 Q,ZT (λq=>Q q.1)]),Zef]
 ·unfold Znj ZjN
  rw[JA,JA];constructor
  ·rintro⟨Q,a,t,d,i,g,l,n⟩;exact⟨Q,a,i,l,n,by omega,g,d⟩
  ·rintro⟨Q,a,i,l,n,t,g,d⟩;exact⟨Q,a,by omega,d,i,g,l,n⟩
structure Ziv {α:Type} (key:α->Int) (A B:List α):Prop where
 mem:∀x,x∈A<->x∈B
 inc:ZcR key B
 nod:(A.map key).Nodup
 prs:∀p:Int,(∃x∈B,key x=2*p)<->∃x∈B,key x=2*p+1
 len:A.length=B.length
variable (key:α->Int)
theorem Ziv.nil:Ziv key [] [] :=
 ⟨λx=>KT,List.Pairwise.nil,KM,λp=>by simp,rfl⟩
theorem Zu2 (l:List α) (a b:α):(Zms key l a b).length=l.length+2:=by
 unfold Zms;have:=Zl0 key (key a) l;simp only[Uh,Uf,Uo,US];omega
variable {key:α->Int} {A B:List α}
theorem Ziv.add (h:Ziv key A B) {a b:α} {p:Int} (m:key a=2*p) (i:key b=2*p+1) (W:¬∃x∈B,key x=2*p):Ziv key (A++[a,b]) (Zms key B a b):=by
 have N:¬∃x∈B,key x=2*p+1:=λq=>W ((h.prs p).2 q);have o:∀x∈B,key x<key a\/key b<key x:=λx Z=>by
  have d:key x≠2*p:=λe=>W ⟨x,Z,e⟩;have g:key x≠2*p+1:=λe=>N ⟨x,Z,e⟩;omega
 refine⟨λx=>?_,Zu1 h.inc (by omega) o,?_,λq=>?_,?_⟩
 ·rw[Uu,ZdL,h.mem x]
  simp only[Us,UR,Kd];constructor
  ·rintro(w|w|w)
   ·exact .inr (.inr w)
   ·exact .inl w
   ·exact .inr (.inl w)
  ·rintro(w|w|w)
   ·exact .inr (.inl w)
   ·exact .inr (.inr w)
   ·exact .inl w
 ·rw[Kp,UW]
  refine⟨h.nod,?_,?_⟩
  ·simp only[Kv,Hx,KU,Us,UR,Kd,not_false_eq_true,KM,and_true]
   omega
  ·intro x Z y H
   obtain⟨z,S,rfl⟩:=KQ.1 Z;have:=o z ((h.mem z).1 S);simp only[Kv,Hx,Us,UR,Kd]at H;rcases H with rfl|rfl<;>omega
 ·have c:=h.prs q
  constructor
  ·rintro⟨x,Z,e⟩
   rcases ZdL.1 Z with rfl|rfl|Z
   ·exact⟨b,ZdL.2 (.inr (.inl rfl)),by omega⟩
   ·omega
   ·obtain⟨y,H,f⟩:=c.1 ⟨x,Z,e⟩
    exact⟨y,ZdL.2 (.inr (.inr H)),f⟩
  ·rintro⟨x,Z,e⟩
   rcases ZdL.1 Z with rfl|rfl|Z
   ·omega
   ·exact⟨a,ZdL.2 (.inl rfl),by omega⟩
   ·obtain⟨y,H,f⟩:=c.2 ⟨x,Z,e⟩
    exact⟨y,ZdL.2 (.inr (.inr H)),f⟩
 ·rw[Uh,Zu2,h.len]
  rfl
theorem Ziv.perm (h:Ziv key A B):B.Perm A:=by
 have H:A.Nodup:=List.Pairwise.of_map key (λa b q e=>q (by rw[e])) h.nod;have j:B.Nodup:=h.inc.imp λ{x y} q e=>by rw[e]at q;omega
 exact(List.perm_ext_iff_of_nodup j H).2 λx=>(h.mem x).symm
def Ztg {α:Type} (key:α->Int) (q:α×α):Prop:=∃p,key q.1=2*p/\key q.2=2*p+1
def Zgl {α:Type} (key:α->Int) (n:Int) (l:List α):Bool:=l.any λx=>decide (key x=n)
variable {l:List α}
theorem Zgb {n:Int}:Zgl key n l=true<->∃x∈l,key x=n:=by
 unfold Zgl;rw[KN];constructor
 ·rintro⟨x,d,f⟩;exact⟨x,d,of_decide_eq_true f⟩
 ·rintro⟨x,d,f⟩;exact⟨x,d,UJ f⟩
def Zq4 {α:Type} (key:α->Int) (A:List α) (q:α×α):List α:=if Zgl key (key q.1) A=true then A else A++[q.1,q.2]
def Zu0 {α:Type} (key:α->Int) (B:List α) (q:α×α):List α:=if Zgl key (key q.1) B=true then B else Zms key B q.1 q.2
theorem Ziv.step (h:Ziv key A B) {q:α×α} (a:Ztg key q):Ziv key (Zq4 key A q) (Zu0 key B q):=by
 obtain⟨p,d,f⟩:=a;have e:Zgl key (key q.1) A=true<->Zgl key (key q.1) B=true:=by
  rw[Zgb,Zgb];constructor
  ·rintro⟨x,Z,q⟩;exact⟨x,(h.mem x).1 Z,q⟩
  ·rintro⟨x,Z,q⟩;exact⟨x,(h.mem x).2 Z,q⟩
 unfold Zq4 Zu0;by_cases c:Zgl key (key q.1) B=true
 ·rw[Uc c,Uc (e.2 c)];exact h
 ·rw[Ue c,Ue (λz=>c (e.1 z))]
  exact h.add d f (λz=>c (Zgb.2 (by rw[d];exact z)))
theorem Zx0 (key:α->Int) (A:List α) (q:α×α):(Zq4 key A q).length<=A.length+2:=by
 unfold Zq4;split
 ·omega
 ·rw[Uh];exact UE _
theorem Zl9 {α β:Type} {key:α->Int} {g:Nat->β->α×α}:∀(l:List β) (m:Nat) {A B:List α},Ziv key A B->(∀k x,l[k]?=some x->Ztg key (g (m+k) x))->
  Ziv key (XU (λk x s=>Zq4 key s (g k x)) m l A) (XU (λk x s=>Zu0 key s (g k x)) m l B)
 |[],_,_,_,h,_=>h
 |x::l,m,A,B,h,a=>by
  simp only[XU];refine Zl9 l (m+1) (h.step (a 0 x rfl)) (λk y e=>?_);rw[show m+1+k=m+(k+1) by omega];exact a (k+1) y (by rw[U3];exact e)
theorem ZhE {α β:Type} {key:α->Int} {g:Nat->β->α×α}:∀(l:List β) (m:Nat) (A:List α),(XU (λk x s=>Zq4 key s (g k x)) m l A).length<=A.length+2*l.length
 |[],_,A=>by simp[XU]
 |x::l,m,A=>by
  simp only[XU];have d:=ZhE (key:=key) (g:=g) l (m+1) (Zq4 key A (g m x));have f:=Zx0 key A (g m x);rw[Uf];omega
variable {K:Int} {x:α}
theorem ZCg (H:k<Zad key K l) (Z:l[k]?=some x):key x<K :=
 Zj7 key K l x (Ud (i:=k) (by rw[UB,Uc H];exact Z))
theorem ZAg (q:ZcR key l) (Z:l[Zad key K l]?=some x):K<=key x :=
 ZiT q x (Ud (i:=0) (by rw[Km,Kt];exact Z))
theorem Zor {l:List Zj} {a b:Zj} (g:ZcR K7 l) (n:l.length<=1000000:=by omega):ZdJ l a b=some (Zu0 K7 l (a,b)):=by
 have m:=Zl0 K7 (K7 a) l;have low:∀(k:Nat) (x:Zj),k<Zad K7 (K7 a) l->l[k]?=some x->K7 x<K7 a:=λk x=>ZCg;have h:∀x:Zj,l[Zad K7 (K7 a) l]?=some x->K7 a<=K7 x:=λx=>ZAg g;have o:=Zn6 (k:=K7 a) g;have i:Zu0 K7 l (a,b)=if Zgl K7 (K7 a) l=true then l else l.take (Zad K7 (K7 a) l)++a::b::l.drop (Zad K7 (K7 a) l):=rfl;generalize Zad K7 (K7 a) l=p at m low h o i;unfold ZdJ;refine YC p (λk v=>v=((k:Int),())) _ rfl ?_ ?_
 ·rintro k _ j rfl
  have Z:l[k]?=some (l[k]'(by omega)):=Ua _;have d:=low k _ j Z;generalize l[k]'(by omega)=x at Z d;simp only[ZcD,show(k:Int)<(l.length:Int)from by omega,Uk,Zv,Z,Bq];rw[Uc d,Xd];exact .inl ⟨_,rfl,rfl⟩
 ·rintro _ rfl
  have L:List.take (l.length-p) (List.drop p l)=List.drop p l:=KO (by rw[US];omega);by_cases c:p<l.length
  ·have Z:l[p]?=some (l[p]'c):=Ua _
   generalize l[p]'c=x at Z;have d:=h x Z;simp only[ZcD,show(p:Int)<(l.length:Int)from by omega,Uk,Zv,Z,Bq];rw[Qu];by_cases e:K7 x=K7 a
   ·rw[Uc e,i,Uc (Zgb.2 (o.2 ⟨x,Z,e⟩))]
   ·rw[Ue e,i,Ue (λq=>by
     obtain⟨y,H,f⟩:=o.1 (Zgb.1 q);rw[Z]at H;injection H with H
     subst H;exact e f)]
    simp only[UG,show Int.toNat (0:Int)=0 from rfl,Nat.sub_zero,KL,Uq,L];rw[QQ,QQ,Zk (U7 _),Zk (by simp only[Uf,Ug,US];omega),Zk (by simp only[Ug,Uo];omega),Zk (by simp only[Uf,Ug,US,Uo,Uh];omega)];rfl
  ·simp only[ZcD,show ¬(p:Int)<(l.length:Int)from by omega,Uj]
   rw[i,Ue (λq=>by
     obtain ⟨y,H,f⟩:=o.1 (Zgb.1 q);have:=(Ub.1 H).1;omega)]
   simp only[UG,show Int.toNat (0:Int)=0 from rfl,Nat.sub_zero,KL,Uq,L];rw[QQ,QQ,Zk (U7 _),Zk (by simp only[Uf,Ug,US];omega),Zk (by simp only[Ug,Uo];omega),Zk (by simp only[Uf,Ug,US,Uo,Uh];omega)];rfl
def cpr (l:List Zf) (k:Nat) (c:Zf):Zj×Zj :=
  ((2*Gs c,(Wq ((ZgC l (k:Int)).rise+G2 c),Wq ((ZgC l (k:Int)).rise+G8 c),()),((0:Int),(0:Int),()),()),
   (2*Gs c+1,(Wq ((ZgC l (k:Int)).fall+G2 c),Wq ((ZgC l (k:Int)).fall+G8 c),()),((0:Int),(0:Int),()),()))
def ipr (l:List Zf) (k:Nat) (x:Zh):Zj×Zj :=
  ((2*Gj x,(Wq ((ZgC l (GQ x)).rise+K8 (Gt x)),Wq ((ZgC l (GQ x)).rise+Ga (Gt x)),()),x.2.2.2),
   (2*Gj x+1,(Wq ((ZgC l (GQ x)).rise+K8 (Gt x)),Wq ((ZgC l (GQ x)).rise+Ga (Gt x)),()),x.2.2.2))
variable (l:List Zf)
theorem ZB2 (k:Nat) (c:Zf):Ztg K7 (cpr l k c):=⟨Gs c,rfl,rfl⟩
theorem ZCc (k:Nat) (x:Zh):Ztg K7 (ipr l k x):=⟨Gj x,rfl,rfl⟩
variable {l:List Pl}
theorem Zld {s:Zo} (h:ZjN l s) (q:(Gb s)[k]?=some c):ZrJ (Gb s) (k:Int)/\0<=Gs c/\Gs c<(l.length:Int):=by
 have H:=(Ub.1 q).1;exact⟨Zuc h.1,ZfS.place h.1 (Ud q),h.2.1 c (Ud q)⟩
theorem Zpn {s:Zo} (h:ZjN l s) {x:Zh} (Z:(GN s)[k]?=some x):ZrJ (Gb s) (GQ x)/\0<=Gj x/\Gj x<(l.length:Int):=by
 have e:=h.2.2.1 k x Z;exact⟨Zuc h.1 e.2.2.2.1.1 (by have:=e.2.2.2.1.2;omega),e.1.1,by have:=e.1.2;omega⟩
variable {p:List Pl}
theorem ZlP {n:Int} {l:List Zh} (h:Zif p n drv l):l.length<=p.length:=by
 have:∀(k:Nat) (x:Zh),l[k]?=some x->(k:Int)<=Gj x:=by
  intro k;induction k with
  |zero=>intro x Z;have:=(h 0 x Z).1.1;omega
  |succ k i =>
   intro x Z;have t:=(Ub.1 Z).1;have e:l[k]?=some l[k]:=Ua (by omega);have d:=i _ e;have f:=(h (k+1) x Z).2.2.1 l[k] (by omega) (by rw[Nat.add_sub_cancel];exact e);omega
 rcases KP l.length with H|H
 ·omega
 ·have e:l[l.length-1]?=some l[l.length-1]:=Ua (by omega)
  have d:=this _ _ e;have f:=(h _ _ e).1.2;omega
theorem Znr {s:Zo} (h:ZjN l s) (f:l.length<=100) (q:(Gb s)[k]?=some c):Zcw (Gb s) (k:Int)=some [(cpr (Gb s) k c).1,(cpr (Gb s) k c).2]:=by
 obtain⟨d,H,g⟩:=Zld h q;unfold Zcw;rw[Zv,q,Bq,Zhe d,Bq];refine(YW (v':=([(cpr (Gb s) k c).1],(1:Int),())) ?_).trans ((YW (v':=([(cpr (Gb s) k c).1,(cpr (Gb s) k c).2],(2:Int),())) ?_).trans (YF ?_))
 ·show Xq c (wvI (ZgC (Gb s) (k:Int))) [] 0=_
  unfold Xq;rw[Uc (by decide)];show(some (ZgC (Gb s) (k:Int)).rise).bind _=_;rw[Bq,Zk (by simp only[Uf,Ug];omega),QP (n:=2*Gs c),K2,QP (n:=2*Gs c)];rfl
 ·show Xq c (wvI (ZgC (Gb s) (k:Int))) [(cpr (Gb s) k c).1] 1=_
  unfold Xq;rw[Uc (by decide)];show(some (ZgC (Gb s) (k:Int)).fall).bind _=_;rw[Bq,Zk (by simp only[Uf,Ug];omega),QP (n:=2*Gs c),QP (n:=2*Gs c+1)];rfl
 ·show Xq c (wvI (ZgC (Gb s) (k:Int))) [(cpr (Gb s) k c).1,(cpr (Gb s) k c).2] 2=_
  unfold Xq;rw[Ue (by decide)]
theorem Zr0 {l:List Zj} (h:Len l) (n:Int):∃r,Vt l n=some (r,Zgl K7 n l):=by
 unfold Vt;rw[Y4 h (λx=>decide (K7 x=n)) (λx _=>rfl),Bq];have d:=Zwm (p:=λx=>decide (K7 x=n)) (l:=l);have f:=Vr (p:=λx=>decide (K7 x=n)) (l:=l);by_cases c:0<=ZaI (λx=>decide (K7 x=n)) l
 ·obtain⟨x,Z,_⟩:=Zjv c d
  rw[Uc c,Z,Bq];exact⟨x,by rw[show Zgl K7 n l=true from f.1 c]⟩
 ·rw[Ue c]
  refine ⟨((0:Int),((0:Int),(0:Int),()),((0:Int),(0:Int),()),()),?_⟩;rw[show Zgl K7 n l=false from by
   cases q:Zgl K7 n l with
   |false=>rfl
   | true=>exact absurd (f.2 q) c]
noncomputable def ZqK (s:Zo):List Zj:=XU (λk x a=>Zq4 K7 a (cpr (Gb s) k x)) 0 (Gb s) []
noncomputable def ZCB (s:Zo):List Zj:=XU (λk x a=>Zq4 K7 a (ipr (Gb s) k x)) 0 (GN s) (ZqK s)
noncomputable def Zve (s:Zo):List Zj:=XU (λk x a=>Zu0 K7 a (cpr (Gb s) k x)) 0 (Gb s) []
noncomputable def ZqL (s:Zo):List Zj:=XU (λk x a=>Zu0 K7 a (ipr (Gb s) k x)) 0 (GN s) (Zve s)
theorem ZCr (n:Nat):Ziv K7 (XU (λk x a=>Zq4 K7 a (cpr (Gb s) k x)) 0 ((Gb s).take n) []) (XU (λk x a=>Zu0 K7 a (cpr (Gb s) k x)) 0 ((Gb s).take n) []) :=
 Zl9 (g:=λk x=>cpr (Gb s) k x) _ 0 (Ziv.nil _) (λk x _=>ZB2 _ _ _)
theorem ZCs:Ziv K7 (ZqK s) (Zve s):=by
 have:=ZCr s (Gb s).length;rw[Ur]at this;exact this
theorem ZCt (n:Nat):Ziv K7 (XU (λk x a=>Zq4 K7 a (ipr (Gb s) k x)) 0 ((GN s).take n) (ZqK s)) (XU (λk x a=>Zu0 K7 a (ipr (Gb s) k x)) 0 ((GN s).take n) (Zve s)) :=
 Zl9 (g:=λk x=>ipr (Gb s) k x) _ 0 (ZCs s) (λk x _=>ZCc _ _ _)
theorem Zxi:Ziv K7 (ZCB s) (ZqL s):=by
 have:=ZCt s (GN s).length;rw[Ur]at this;exact this
variable {s:Zo}
theorem len1 (h:ZjN l s) (n:Nat):(XU (λk x a=>Zq4 K7 a (cpr (Gb s) k x)) 0 ((Gb s).take n) []).length<=12:=by
 have:=ZhE (key:=K7) (g:=λk x=>cpr (Gb s) k x) ((Gb s).take n) 0 [];rw[Uo,Ug]at this;have:=h.1.1;omega
theorem ZE2 (h:ZjN l s):(ZqK s).length<=12:=by
 have:=len1 h (Gb s).length;rw[Ur]at this;exact this
theorem len2 (h:ZjN l s) (f:l.length<=100) (n:Nat):(XU (λk x a=>Zq4 K7 a (ipr (Gb s) k x)) 0 ((GN s).take n) (ZqK s)).length<=212:=by
 have:=ZhE (key:=K7) (g:=λk x=>ipr (Gb s) k x) ((GN s).take n) 0 (ZqK s);rw[Uo]at this;have:=ZlP h.2.2.1;have:=ZE2 h;omega
theorem Zq5 {A:List Zj} {q:Zj×Zj} {r:Bool} {v:Int} (E:r=Zgl K7 (K7 q.1) A) (h:A.length<=1000000:=by omega):(if r=true then some (Sum.inl (Wq (v+1),A,()))else Zw ((A.length+[q.1,q.2].length)*40<=140737488355328) (some (.inl (Wq (v+1),A++[q.1,q.2],()))):Option ((Int×List Zj×Unit)⊕List Zj))=some (.inl (Wq (v+1),Zq4 K7 A q,())):=by
 subst E;unfold Zq4;by_cases c:Zgl K7 (K7 q.1) A=true
 ·rw[Uc c,Uc c]
 ·rw[Ue c,Ue c,Zk (by simp only[Uf,Ug];omega)]
theorem Zhr (h:ZjN p s) (H:p.length<=100:=by omega):ZcX s=some (ZqL s):=by
 have w:=ZlP h.2.2.1;have F:=h.1.1;unfold ZcX;refine Zbl (l:=Gb s) (by unfold Len;omega) (λa i=>(i,a,())) (f:=λk x a=>Zq4 K7 a (cpr (Gb s) k x)) (s0:=[]) (λ_ _=>True) trivial (λk c A j _ b=>⟨?_,trivial⟩) (λA _ b=>?_)
 ·have m:=(Ub.1 j).1
  have d:A.length<=12:=by rw[b];exact len1 h k
  obtain⟨r,E⟩:=Zr0 (l:=A) (by unfold Len;omega) (K7 (cpr (Gb s) k c).1);show VT s (k:Int) A=_;unfold VT;rw[Qe,Znr h H j,Bq];show(Vt A (K7 (cpr (Gb s) k c).1)).bind _=_;rw[E,Bq];exact Zq5 (q:=cpr (Gb s) k c) rfl
 ·have e:A=ZqK s:=b
  subst e;show VT s ((Gb s).length:Int) (ZqK s)=_;unfold VT;rw[Ue (Ui _)];refine Zbl (l:=GN s) (by unfold Len;omega) (λa i=>(i,a,())) (f:=λk x a=>Zq4 K7 a (ipr (Gb s) k x)) (s0:=ZqK s) (λ_ _=>True) trivial (λk x A Z _ b=>⟨?_,trivial⟩) (λA _ b=>?_)
  ·have m:=(Ub.1 Z).1
   have d:A.length<=212:=by rw[b];exact len2 h H k
   obtain⟨w1,w2,w3⟩:=Zpn h Z;obtain⟨r,E⟩:=Zr0 (l:=A) (by unfold Len;omega) (K7 (ipr (Gb s) k x).1);show VR s (k:Int) A=_;unfold VR;rw[Qe,Zv,Z,Bq,Zhe w1,Bq];show(some (ZgC (Gb s) (GQ x)).rise).bind _=_;rw[Bq,QP (n:=2*Gj x),QP (n:=2*Gj x+1),Int.add_comm (K8 (Gt x)),Int.add_comm (Ga (Gt x))];show(some (ipr (Gb s) k x).1).bind _=_;rw[Bq];show(Vt A (K7 (ipr (Gb s) k x).1)).bind _=_;rw[E,Bq];have:=Zq5 (A:=A) (q:=ipr (Gb s) k x) (v:=(k:Int)) rfl;by_cases c:Zgl K7 (K7 (ipr (Gb s) k x).1) A=true
   ·rw[Uc c]at this ⊢
    injection this with this
    injection this with this
    exact Ka (λz=>some (Sum.inl z)) this
   ·rw[Ue c]at this ⊢
    rw[Zk (by simp only[Uf,Ug];omega)]at this;rw[Zk (by simp only[Uf,Ug];omega)];injection this with this
    injection this with this
    exact Ka (λz=>some (Sum.inl z)) this
  ·have e:A=ZCB s:=b
   subst e;show VR s ((GN s).length:Int) (ZCB s)=_;unfold VR;rw[Ue (Ui _)];have d:=len2 h H (GN s).length;rw[Ur]at d;have g:=Zxi s;rw[(Zpp (key:=λx=>K7 x)).2 ⟨g.perm,g.inc,by have:(ZCB s).length<=212:=d;omega⟩];rfl
theorem Zot (h:ZjN p s) (b:p.length<=100:=by omega):ZeJ s=some (ZqL s):=by
 have w:=ZlP h.2.2.1;have F:=h.1.1;unfold ZeJ;refine Zbl (l:=Gb s) (by unfold Len;omega) (λa i=>(a,i,())) (f:=λk x a=>Zu0 K7 a (cpr (Gb s) k x)) (s0:=[]) (λ_ _=>True) trivial (λk c B q _ j=>⟨?_,trivial⟩) (λB _ j=>?_)
 ·have d:=(Ub.1 q).1
  have H:=ZCr s k;rw[<-j]at H;have g:=H.len;have R:=len1 h k;obtain⟨w1,w2,w3⟩:=Zld h q;show VB s B (k:Int)=_;unfold VB;rw[Qe,Zv,q,Bq,Zh9 w1,Bq,QP (n:=2*Gs c),QP (n:=2*Gs c+1)];show(ZdJ B (cpr (Gb s) k c).1 (cpr (Gb s) k c).2).bind _=_;rw[Zor H.inc];rfl
 ·have e:B=Zve s:=j
  subst e;show VB s (Zve s) ((Gb s).length:Int)=_;unfold VB;rw[Ue (Ui _)];refine Zbl (l:=GN s) (by unfold Len;omega) (λa i=>(a,i,())) (f:=λk x a=>Zu0 K7 a (ipr (Gb s) k x)) (s0:=Zve s) (λ_ _=>True) trivial (λk x B Z _ j=>⟨?_,trivial⟩) (λB _ j=>?_)
  ·have d:=(Ub.1 Z).1
   have H:=ZCt s k;rw[<-j]at H;have g:=H.len;have R:=len2 h b k;obtain⟨w1,w2,w3⟩:=Zpn h Z;show VA s B (k:Int)=_;unfold VA;rw[Qe,Zv,Z,Bq,Zh9 w1,Bq,QP (n:=2*Gj x),QP (n:=2*Gj x+1)];show(ZdJ B (ipr (Gb s) k x).1 (ipr (Gb s) k x).2).bind _=_;rw[Zor H.inc];rfl
  ·have e:B=ZqL s:=j
   subst e;show VA s (ZqL s) ((GN s).length:Int)=_;unfold VA;rw[Ue (Ui _)]
theorem ZiW {α β:Type} {key:α->Int} {g:Nat->β->α×α}:∀(l:List β) (m:Nat) (B:List α) (x:α),x∈XU (λk y a=>Zu0 key a (g k y)) m l B->x∈B\/∃k y,l[k]?=some y/\(x=(g (m+k) y).1\/x=(g (m+k) y).2)
 |[],_,_,_,h=>.inl h
 |y::l,m,B,x,h=>by
  simp only[XU]at h;rcases ZiW l (m+1) _ x h with h|⟨k,z,S,h⟩
  ·unfold Zu0 at h
   split at h
   ·exact .inl h
   ·rcases ZdL.1 h with h|h|h
    ·exact .inr ⟨0,y,rfl,.inl h⟩
    ·exact .inr ⟨0,y,rfl,.inr h⟩
    ·exact .inl h
  ·rw[show m+1+k=m+(k+1) by omega]at h
   exact .inr ⟨k+1,z,by rw[U3];exact S,h⟩
theorem Zsq {l:List Zf} (h:ZfS l) (q:c∈l):0<=G2 c/\G2 c<=G8 c/\G8 c<=100000/\0<=Ht c/\Ht c<=100000:=by
 obtain⟨k,H⟩:=UA.1 q;have d:=h.2.1 k c (by have:=(Ub.1 H).1;omega) H;unfold Zgi ZiV at d;simp only[Up,Ul,QD]at d;omega
variable {a:Int}
theorem ZAP {r b:Int} (k:0<=r) (d:r<=100000) (f:-100000<=a) (g:a<=b) (i:b<=100000):ZaH (Wq (r+a),Wq (r+b),()):=by
 rw[QP (n:=r+a),QP (n:=r+b)];show(-1000000000<=r+a/\r+a<=1000000000)/\(-1000000000<=r+b/\r+b<=1000000000)/\r+a<=r+b;omega
theorem src_ok (h:ZjN l s) {x:Zj} (Z:x∈ZqL s):(0<=K7 x/\K7 x<=2*(l.length:Int)-1)/\ZaH (GR x)/\ZcT (GZ x):=by
 rcases ZiW _ _ _ _ Z with Z|⟨k,e,b,Z⟩
 ·rcases ZiW _ _ _ _ Z with Z|⟨k,c,q,Z⟩
  ·cases Z
  ·have d:=(Ub.1 q).1
   obtain⟨_,w2,w3⟩:=Zld h q;have w:=ZGp h.1 (k:=(k:Int));have w4:=w.p2;have w5:=w.r1;have w6:=w.r2;have w7:=w.f1;have w8:=w.f2;obtain⟨p1,p2,P,_⟩:=Zsq h.1 (Ud q);have S:ZcT (((0:Int),(0:Int),()):Zz):=by
    show(0:Int)<=0/\(0:Int)<=0/\(0:Int)<=1000000;omega
   rw[Uw]at Z;rcases Z with rfl|rfl
   ·refine⟨?_,ZAP w5 (by omega) (by omega) p2 P,S⟩
    show 0<=2*Gs c/\2*Gs c<=_;omega
   ·refine⟨?_,ZAP w7 (by omega) (by omega) p2 P,S⟩
    show 0<=2*Gs c+1/\2*Gs c+1<=_;omega
 ·obtain⟨e1,_,_,E,g,a,_⟩:=h.2.2.1 k e b
  have w:=ZGp h.1 (k:=GQ e) E.1;have w4:=w.p2;have w5:=w.r1;have w6:=w.r2;have H:=ZAP w5 (show(ZgC (Gb s) (GQ e)).rise<=100000 by omega) g.2.1 g.1 g.2.2;rcases Z with rfl|rfl
  ·refine⟨?_,H,a⟩
   show 0<=2*Gj e/\2*Gj e<=_;omega
  ·refine⟨?_,H,a⟩
   show 0<=2*Gj e+1/\2*Gj e+1<=_;omega
theorem ZAi {l:List α} (h:ZcR key l) {y:α} (Z:l[k]?=some x) (H:0<k) (e:l[k-1]?=some y):key y<key x:=by
 obtain⟨d,rfl⟩:=Ub.1 Z;obtain⟨f,rfl⟩:=Ub.1 e;exact(List.pairwise_iff_getElem.1 h) _ _ f d (by omega)
theorem ZAQ (h:ZjN l s):ZeM (ZqL s) (Zc7 (2*(l.length:Int)) (ZqL s)):=λk x Z=>by
 obtain⟨d,f,g⟩:=src_ok h (Ud Z);exact⟨d,λy H e=>ZAi (Zxi s).inc Z H e,f,g⟩
theorem Zy6 (h:ZjN l s) (f:l.length<=100:=by omega):(ZqL s).length<=1000:=by
 have q:=len2 h f (GN s).length;rw[Ur]at q;have:=(Zxi s).len;have:(ZCB s).length<=212:=q;omega
structure ZBT (b:Zc) (s:Zo) (x:ZA) (v:ZG) (t:Zr):Prop where
 set:Znj b s
 blk:Xh b
 cor:Vd x
 view:VOk b v
 new:Vx b=some v
 is:Is b x (ZqW b) (ZqL s) t
 prop:Qa b x (ZqW b) (ZqL s)=some (t,0)
variable (s:Zo) (c:Int)
theorem Zxl (k:sm Xi b) (z:sm Zc4 s) :
  (∃x v t,ZBT b s x v t/\atI (GV s) c=some x/\Zb4 b s c=some (some ((v,XG b (ZqW b),()),x,ZqL s,t,()),0)/\VP b s c=some (t,0))\/
  (∃code:Int,code≠0/\Zb4 b s c=some (none,code)/\VP b s c=some (noT,code)):=by
 unfold Zb4 VP;rw[ZiH b s k z,Zol b s k z,Bq,Bq];by_cases H:Znj b s;rotate_left
 ·rw[Ue (λq=>H ((Xf _).1 q)),Ue (λq=>H ((Xf _).1 q))]
  exact .inr ⟨1,by decide,rfl,rfl⟩
 have h:Xh b:=⟨H.1,k⟩;have K:=YT H.1.1.few;have V:Zhk (GV s):=H.2.2.2.2.2.2.2;have M:=V.1;rw[Uc (ZR H),Uc (ZR H),show QL (GV s)=some ((GV s).length:Int)from rfl,Bq,QP (n:=((GV s).length:Int)-1),Qs,QT,Bq,Bq];by_cases m:0<=c/\c<=((GV s).length:Int)-1;rotate_left
 ·rw[Ue (λq=>m ((Xf _).1 q)),Ue (λq=>m ((Xf _).1 q))]
  exact .inr ⟨4,by decide,rfl,rfl⟩
 obtain⟨x,Z,G⟩:=Zjv (l:=GV s) m.1;have y:Vd x:=V.2.1 x (Ud G);have C:sm Qf x:=z.2.2.2.2.1.2 x (Ud G);obtain⟨v,e,d⟩:=ZxM h;have u:=Zx5 h;have o:Zmz ((Zm b).length:Int) (ZqW b):=Zyf _ _;have a:(ZqW b).length<=1048576:=by
  have A:=Zye (Zm b).length (ZjO b);have D:=Y2 h;exact Kg A (by omega)
 have g:=Zy6 H.2;have g:(ZqL s).length<=1048576:=by omega
 have j:=ZAQ H.2;have F:Znh b x (ZqW b) (ZqL s):=⟨h,y,o,j,u⟩;obtain⟨r,e1,E,L⟩:=ZAA b x (ZqW b) (ZqL s) k C a g;have I:VL b x (ZqW b) (ZqL s) none=some (some (v,XG b (ZqW b),()),(ZaC b (ZqW b)).1,0):=by
  unfold VL;rw[ZbX b k,Bq,Uc (ZR H.1),ZfC x,Bq,Uc (ZR y),e,Bq,Uc (by rfl),ZnT h d a,Bq,Uc (ZR o),ZgQ h v d.ZB _ g,Bq,Uc (ZR j),ZlL h d a o,Bq,Znb h d,Bq,Uc u]
 have i:=e1;unfold Qa at i;rw[I,Bq,Uc rfl,Bq] at i;obtain ⟨p,w,i⟩:=KH.1 i;have w:Qd (v,XG b (ZqW b),()) x (ZqL s) (ZaC b (ZqW b)).1=some p:=w;rw[Uc (ZR m),Uc (ZR m),Z,e,Bq,Bq,Bq,ZkN h d,Bq,ZlL h d a o,Bq,Zhr H.2,Bq,Znb h d,Bq,Uc u,w,Bq,
  ZqH h,Bq,Zot H.2,Bq,E,Bq]
 cases B:p.2 with
 |true =>
  rw[Uc B]at i;injection i with i
  subst i;rcases L with⟨_,J⟩|⟨_,D,_⟩
  ·exact .inl ⟨x,v,p.1,⟨H,h,y,d,e,J,e1⟩,rfl,rfl,rfl⟩
  ·rename_i A f
   rcases f with⟨f,_⟩|⟨_,f,_⟩
   ·cases f
   ·exact absurd F f
 |false =>
  rw[Ue (by rw[B];decide)]at i;injection i with i
  subst i;exact .inr ⟨3,by decide,rfl,rfl⟩
theorem ZrV (h:sm Xi b) (a:sm Zc4 s) :
  ∃q:Zr×Int,Zbe b s c=some q/\VP b s c=some q/\((q.2=0/\∃x v,ZBT b s x v q.1/\atI (GV s) c=some x)\/(q.2≠0/\q.1=noT)):=by
 unfold Zbe;rcases Zxl b s c h a with⟨x,v,t,H,Z,e1,f⟩|⟨code,y,e1,f⟩
 ·rw[e1,f,Bq,Uc rfl,Bq]
  exact⟨_,rfl,rfl,.inl ⟨rfl,x,v,H,Z⟩⟩
 ·rw[e1,f,Bq,Ue y]
  exact⟨_,rfl,rfl,.inr ⟨y,rfl⟩⟩
def ZLw (l:List Zf):Nat->Int->Int
 |0,k=>k
 |n+1,k=>match l[k.toNat]? with
  |none=>k
  |some c=>if Gm c<0 then k else ZLw l n (Gm c)
def root (l:List Zf) (k:Int):Int:=ZLw l (k.toNat+1) k
theorem ZK4 (l:List Zf):∀(n m:Nat) (k:Int),0<=k->k<n->k<m->Zut l (k+1)->ZLw l n k=ZLw l m k
 |0,m,k,h,d,_,_=>by omega
 |n+1,0,k,h,_,d,_=>by omega
 |n+1,m+1,k,h,d,f,q=>by
  simp only[ZLw];cases H:l[k.toNat]? with
  |none=>rfl
  |some c =>
   simp only;split
   ·rfl
   ·have t:=q k.toNat c (by omega) H
    exact ZK4 l n m (Gm c) (by omega) (by omega) (by omega) (λj J a b=>q j J (by omega) b)
theorem ZLG (l:List Zf) (k:Int) (a:0<=k) (c:Zf) (q:l[k.toNat]?=some c) (h:Zut l (k+1)):root l k=if Gm c<0 then k else root l (Gm c):=by
 unfold root;rw[ZLw,q];simp only;split
 ·rfl
 ·rename_i H
  have t:=h k.toNat c (by omega) q;exact ZK4 l _ _ (Gm c) (by omega) (by omega) (by omega) (λj J d b=>h j J (by omega) b)
variable {l:List Zf}
theorem ZJY {k:Int} (p:ZrJ l k):ZJq l k=some (root l k):=by
 unfold ZJq;refine ZJH (λv=>ZrJ l v.1/\root l v.1=root l k) (λv=>v.1.toNat) _ ⟨p,rfl⟩ ?_;rintro⟨v,⟨⟩⟩ ⟨⟨H,a,f⟩,E⟩;obtain⟨c,e,b⟩:=Zjv H a;have h:=ZLG l v H c b f;simp only at E;simp only[ZJA,e,Bq];split
 ·rename_i q
  have t:=f v.toNat c (by omega) b;rw[Qu]at h;exact .inl ⟨_,rfl,⟨⟨q,by dsimp only;omega,λj d g L=>f j d (by dsimp only at g;omega) L⟩,by rw[<-E,h]⟩,by dsimp only;omega⟩
 ·rename_i q
  rw[Qe]at h;exact .inr (by rw[<-E,h])
theorem ZJQ {k:Int} (p:ZrJ l k):ZJl l k=some (root l k):=by
 unfold ZJl;refine ZJH (λv=>ZrJ l v.1/\root l v.1=root l k) (λv=>v.1.toNat) _ ⟨p,rfl⟩ ?_;rintro⟨v,⟨⟩⟩ ⟨⟨H,a,f⟩,E⟩;obtain⟨c,e,b⟩:=Zjv H a;have h:=ZLG l v H c b f;simp only at E;simp only[ZJv,e,Bq];split
 ·rename_i q
  have t:=f v.toNat c (by omega) b;rw[Qu]at h;exact .inl ⟨_,rfl,⟨⟨q,by dsimp only;omega,λj d g L=>f j d (by dsimp only at g;omega) L⟩,by rw[<-E,h]⟩,by dsimp only;omega⟩
 ·rename_i q
  rw[Qe]at h;exact .inr (by rw[<-E,h])
theorem ZLo (a b:Int) (d:0<=a):Int.gcd b (a.tmod b)=Int.gcd a b:=by
 rw[Int.tmod_eq_emod_of_nonneg d,Int.gcd_comm,Int.emod_def];simp
variable {b:Int}
theorem ZLl (d:0<=a:=by omega) (f:0<=b:=by omega):ZKR a b=some (Int.gcd a b:Int):=by
 unfold ZKR;refine ZJH (λv=>0<=v.1/\0<=v.2.1/\Int.gcd v.1 v.2.1=Int.gcd a b) (λv=>v.2.1.toNat) _ ⟨d,f,rfl⟩ ?_;rintro⟨x,y,⟨⟩⟩ ⟨g,G,s⟩;simp only at g G s;simp only[ZJX];split
 ·rename_i q
  subst q;right;rw[<-s,Int.gcd_zero_right];congr 2;omega
 ·rename_i q
  rw[Zk q];have b1:=KW y g;have N:=KC x (show 0<y by omega);exact .inl ⟨_,rfl,⟨G,b1,by rw[<-s];exact ZLo x y g⟩,by dsimp only;omega⟩
theorem ZK0 (d:0<=a:=by omega) (f:0<=b:=by omega):ZJF a b=some (Int.gcd a b:Int):=by
 unfold ZJF;refine ZJH (λv=>0<=v.1/\0<=v.2.1/\Int.gcd v.1 v.2.1=Int.gcd a b) (λv=>v.2.1.toNat) _ ⟨d,f,rfl⟩ ?_;rintro⟨x,y,⟨⟩⟩ ⟨g,G,s⟩;simp only at g G s;simp only[ZJB];split
 ·rename_i q
  rw[QQ];have b1:=KW y g;have N:=KC x (show 0<y by omega);exact .inl ⟨_,rfl,⟨G,b1,by rw[<-s];exact ZLo x y g⟩,by dsimp only;omega⟩
 ·rename_i q
  have e:y=0:=by omega
  subst e;right;rw[<-s,Int.gcd_zero_right];congr 2;omega
def hyp (x y:Int):Int:=Wq (Wq (x.tdiv (Int.gcd x y))*y)
structure ZLf (l:List Zf) (a b:Int):Prop where
 wa:ZrJ l a
 wb:ZrJ l b
 pa:1<=(ZgC l a).period
 pb:1<=(ZgC l b).period
theorem ZLf.gcd (h:ZLf l a b):(Int.gcd (ZgC l a).period (ZgC l b).period:Int)≠0:=by
 have:=h.pa;have f:Int.gcd (ZgC l a).period (ZgC l b).period≠0:=by
  intro e;rw[Int.gcd_eq_zero_iff]at e;omega
 omega
theorem ZJ3 (h:ZLf l a b):ZJa l a b=some (hyp (ZgC l a).period (ZgC l b).period):=by
 unfold ZJa;rw[Zhe h.wa,Bq,Zhe h.wb,Bq];have m:=h.pa;have H:=h.pb;simp only[wvI,ZcF.period];rw[ZLl,Bq,Zk h.gcd];rfl
theorem ZJI (h:ZLf l a b):ZJe l a b=some (hyp (ZgC l a).period (ZgC l b).period):=by
 unfold ZJe;rw[Zh9 h.wa,Bq,Zh9 h.wb,Bq];have m:=h.pa;have H:=h.pb;simp only[wvS,YX.period];rw[ZK0,Bq,Zk h.gcd];rfl
noncomputable def codeOf (l:List Zf) (k:List Int):Int:=if tr (ZfS l)=true then(if allIn k 0 ((l.length:Int)-1)=true then 0 else 4)else 1
theorem ZKB (l:List Zf) (k:List Int) (g:k.length<=1000):ZJh l k=some (codeOf l k):=by
 unfold ZJh Zbt codeOf;rw[ZmO,Bq];split
 ·rename_i h
  have F:=((Xf _).1 h).1;rw[Bq,QP,Zcv _ _ _,Bq];split<;>rfl
 ·rfl
theorem ZJP (l:List Zf) (k:Int) (W:ZwZ l) (q:l.length<=4611686018427387904):ZJk l k=some (codeOf l [k]):=by
 unfold ZJk codeOf;rw[ZfI l W q,Bq];split
 ·rw[JZ,Bq,QP]
  simp only[allIn,List.all_cons,List.all_nil,Bool.and_true];split<;>rfl
 ·rfl
theorem ZKW (h:ZfS l) (L:0<=a) (m:a<l.length) (c:0<=b) (H:b<l.length:=by omega):ZLf l a b :=
 ⟨Zuc h L m,Zuc h c H,by have:=(ZGp h L m).p1;omega,by have:=(ZGp h c H).p1;omega⟩
end Go.Proofs.YtjkccpcebpeadaaGreatDoor
