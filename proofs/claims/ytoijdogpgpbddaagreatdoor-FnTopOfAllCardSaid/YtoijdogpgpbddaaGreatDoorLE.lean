/-
  Plain laws: the law FnTop.
-/
import Derived.Test.YtoijdogpgpbddaaGreatDoorLD
namespace Go.Proofs.YtoijdogpgpbddaaGreatDoor
set_option linter.unusedVariables false
set_option linter.unusedSimpArgs false
open Go Go.Sx
section
variable {c:ZB} {b0:Za} {l0:List Zj} {T0:Zf}
theorem closing (H:sm XR c) (g:l0.length<=1000) {P:Int} {B:List Za} {s:List Zh} {b:Za} {l:List Zj} {T:Zf} (h:ZuZ c b0 l0 T0 B s b l T) (f:s.length<=1048576:=by omega) :
  ((XV b c (([]:List Int)) l).bind λPropagateTiming2 =>
  if PropagateTiming2.snd=(0:Int)then
   (VL PropagateTiming2.fst (Ga T,Gx T,Gv T,())).bind λW =>
   if W=true then
    if(↑(List.length PropagateTiming2.fst.fst):Int)=(0:Int)then
     if(↑(List.length (K4 b0)):Int)=(0:Int)then
      some (.inr (.inr (Decidable.decide (PropagateTiming2.snd=(0:Int)))))
     else
      some (.inr (.inr Bool.false))
    else
     ZA (λv=>XW c (T0,P) B s v.1 v.2.1 v.2.2.1 v.2.2.2.1 v.2.2.2.2.1) (l,Wq ((↑(List.length s):Int)-(1:Int)),Ga T,Gx T,Gv T,())
   else
    if(↑(List.length (K4 b0)):Int)=(0:Int)then
     some (.inr (.inr (Decidable.decide (PropagateTiming2.snd=(0:Int)))))
    else
     some (.inr (.inr Bool.false))
  else
   if(↑(List.length (K4 b0)):Int)=(0:Int)then
    some (.inr (.inr (Decidable.decide (PropagateTiming2.snd=(0:Int)))))
   else
    some (.inr (.inr Bool.false)):Option (((List Za)×(List Zj)×(List Zh)×Int×(List Bool)×(List ZC)×(List ZC)×Unit) ⊕ (((List Zj)×Int×Unit) ⊕ Bool)))=some (.inr (.inr true)):=by
 obtain⟨m,x⟩:=h.is;have j:=m.asked.blk;have o:=ZgZ j;have k:=h.srcs;obtain⟨q,Q,_,i⟩:=Zqm b c [] l j.sm H (by simp);have n:q=(T,0):=by
  rcases i with⟨z,Z⟩|⟨_,z,_⟩
  ·obtain⟨a,d⟩:=q
   have E:a=T:=Z.unique m;grind
  grind
 have w:=ZHk m.tb m.tb;rw[ZY rfl]at w;rw[Q,Bq,n,Uc rfl,show VL (T,(0:Int)).fst (Ga T,Gx T,Gv T,())=some true from w,Bq,Uc rfl];by_cases e:YD b=0
 ·rw[Uc (by show((Ga T).length:Int)=0;rw[m.tb.lr,e];rfl),Uc (by rw[h.empty e];rfl)]
  rfl
 ·rw[Ue (by show ¬((Ga T).length:Int)=0;rw[m.tb.lr];omega)]
  have:=ZBx H g (P:=P) h [] [] f;grind
theorem forth (p:sm XR c) (G:l0.length<=1000) {P:Int} {E:List Zh} (d:∀x∈E,sm XI x) (D:E.length<=1048576):∀(m:Nat) {B:List Za} {s:List Zh} {b:Za} {l:List Zj} {T:Zf},ZuZ c b0 l0 T0 B s b l T->s.length+m=E.length->
  ZA (λv=>QB b0 E c (T0,P) v.1 v.2.1 v.2.2.1 v.2.2.2.1 v.2.2.2.2.1 v.2.2.2.2.2.1 v.2.2.2.2.2.2.1) (B,l,s,(s.length:Int),Ga T,Gx T,Gv T,())=some (.inr true)
 |0,B,s,b,l,T,h,hm=>by
  obtain⟨i,t⟩:=h.len;refine Y1 ?_;show QB b0 E c (T0,P) B l s (s.length:Int) (Ga T) (Gx T) (Gv T)=_;unfold QB;rw[QQ,QR,show(B.length:Int)-1=(s.length:Int) by omega,Zp,t,Bq];exact closing p G h
 |m+1,B,s,b,l,T,h,hm=>by
  obtain⟨i,t⟩:=h.len;obtain⟨w,C⟩:=h.is;have M:=w.asked.blk;have a4:=h.srcs;have O:s.length<E.length:=by omega
  have J:E[s.length]?=some (E[s.length]'O):=Ub _;generalize E[s.length]'O=e at J;have H:=d e (Ud J);obtain⟨r,k,a0,U,V,W⟩:=Zpq b e M.sm H;obtain⟨K,S,_,Q⟩:=ZgI b e l M.sm H;have x0:atI B (Wq ((B.length:Int)-1))=some b:=by
   rw[QR,show(B.length:Int)-1=(s.length:Int) by omega,Zp];exact t
  have L:=closing p G (P:=P) h;have o:QB b0 E c (T0,P) B l s (s.length:Int) (Ga T) (Gx T) (Gv T)=QB b0 E c (T0,P) B l s (s.length:Int) (Ga T) (Gx T) (Gv T):=rfl
  conv at o=>rhs;unfold QB
  rw[QP,x0,Bq,Zp,J,Bq,U,Bq,V]at o;by_cases a:k=0
  ·obtain⟨n,F⟩:=W a
   subst a;obtain⟨r',R,_,hR,_,Y⟩:=Zg5 n H;rw[F]at R;injection R with R
   subst R;obtain⟨N,A⟩:=Zxn n H F Y hR C;obtain⟨u,q,nets,u1,u2,_,_,_,u5,u6⟩:=Zz9 n H p (by omega) F w N;rw[show YV b e c l (Ga T,Gx T,Gv T,())=some u from u1,Bq,Bq,Uc rfl,Uc rfl]at o;by_cases j:u.2.2=0
   ·obtain⟨w1,w2,_⟩:=u6 (by omega)
    obtain⟨r2,f,Z,z2,_,z4,z5,z6⟩:=undo n H;rw[F]at Z;injection Z with Z
    subst Z;have g:ZeJ b e=some (f,0):=by
     unfold ZeJ;rw[a0,Bq,Uc rfl,z2];rfl
    have z:K.2=0/\K.1=l.map (carry (after b e)):=by
     rcases Q with⟨y0,_,_,_,y1⟩|⟨_,_,y⟩
     ·exact⟨y0,y1⟩
     ·exact absurd ⟨n,w.asked.src,N⟩ y
    have X:ZuZ c b0 l0 T0 (B++[r]) (s++[f]) r (l.map (carry (after b e))) u.1:=.snoc h n H F z5 z4 z6 (by rw[w2];exact w1) A;have ih:=forth p G (P:=P) d D m X (by rw[Ug];simp only[Um,Uo];omega);rw[Uc j,g,Bq,S,Bq,Uc rfl,Uc z.1,Zk (by simp only[Um,Uo];omega),Zk (by simp only[Um,Uo];omega),Y3,z.2]at o;refine(Xk (v':=(B++[r],l.map (carry (after b e)),s++[f],((s.length+1:Nat):Int),Ga u.1,Gx u.1,Gv u.1,())) o).trans ?_;rw[show s.length+1=(s++[f]).length by rw[Ug];rfl];exact ih
   ·rw[Ue j,Zui]at o
    exact Y1 (o.trans L)
  ·have I:∃u,YV b e c l T=some u:=by
    unfold YV;have z:K.2≠0:=by
     rcases Q with⟨_,y,_⟩|⟨y,_⟩
     ·intro _
      have:=(Zi2 y H (Zg5 y H).choose_spec.1).1;rw[a0]at this;injection this with this
      exact a this
     ·exact y
    rw[S,Bq,Ue z];exact⟨_,rfl⟩
   obtain⟨u,I⟩:=I;rw[show YV b e c l (Ga T,Gx T,Gv T,())=some u from I,Bq,Bq,Uc rfl,Ue a,Zui]at o;exact Y1 (o.trans L)
end
theorem at_eq {a:Zu} {d:Zb} (n:sm X9 a) (N:sm YN d) (h:Ql a d) {k:Nat} {p:Pl} (g:(Zg d)[k]?=some p):Zjw a d (k:Int)=some (p,true):=by
 have i:=ZQ h.few;have H:=(Ua.1 g).1;unfold Zjw;rw[Zc0 _ _ n N,Bq,Uc (ZY h),ZP _ h.few,Bq,QR,Jy,Bq,Uc (ZY ⟨by omega,by omega⟩),Zp,g];rfl
theorem ZEO (b:Za) (s:List Zh) (c:ZB) (m:sm Ya b) (H:sm (.sl XI) s) (o:sm XR c):ZeV b s c=some true:=by
 obtain⟨S,e,I⟩:=Vi m;have D:s.length<=1048576:=by have:=H.1;omega
 have i:∀x∈s,sm XI x:=H.2;have tail:∀(v0:List Zj) (v1 n:Int),v0.length<=1000->Zky b v0->Zcg (K6 b) (K2 b)=some n->¬v1<n->Jl b s c v0 v1=some (.inr true):=λv0 v1 n a h A F=>by
  obtain⟨q,Q,f,C⟩:=Zqm b c [] v0 m o (by simp);unfold Jl;rw[A,Bq,Ue F,Q,Bq,f,Bq,Uc rfl];rcases C with⟨z,w⟩|⟨z,_,y⟩
  ·rw[Uc z]
   obtain⟨T,P⟩:=q;have:=forth (c:=c) (b0:=b) (l0:=v0) (T0:=T) o a (P:=P) i D s.length (ZuZ.nil w h) (by simp);exact this
  ·rw[QQ,z]
   rfl
 unfold ZeV;by_cases d:Ql (K6 b) (K2 b);rotate_left
 ·refine Y1 ?_
  refine tail [] 0 (-1) (by simp) (λx l=>by cases l) ?_ (by omega);unfold Zcg;rw[Zc0 _ _ S e,Bq,Ue (λz=>d ((YS _).1 z))]
 have j:=d.few;have B:=ZQ j;have K:Zcg (K6 b) (K2 b)=some ((Zg (K2 b)).length:Int):=by
  unfold Zcg;rw[Zc0 _ _ S e,Bq,Uc (ZY d),ZP _ j];rfl
 refine XJ (Zg (K2 b)).length (λk v=>v.2.1=(k:Int)/\v.1.length<=2*k/\Zky b v.1) _ ⟨rfl,by simp,λx l=>by cases l⟩ ?_ ?_
 ·rintro k ⟨v0,v1,⟨⟩⟩ r ⟨rfl,a,h⟩
  dsimp only at a h;have g:(Zg (K2 b))[k]?=some ((Zg (K2 b))[k]'r):=Ub _;generalize (Zg (K2 b))[k]'r=p at g;have E:Zf1 (K6 b) (K2 b) (k:Int)=some (p.1,p.2.1):=by
   unfold Zf1;rw[at_eq S e d g,Bq,Uc rfl]
  have t:Zf4 (K6 b) (K2 b) (k:Int)=some p.2.2.1:=by
   unfold Zf4;rw[at_eq S e d g,Bq,Uc rfl]
  have u:∀n,∃z,ZhK (K6 b) (K2 b) n=some z:=λn=>by
   unfold ZhK;rw[Zc0 _ _ S e,Bq,Uc (ZY d),Zjx _ _ j];exact⟨_,rfl⟩
  left;show ∃v',Jl b s c v0 (k:Int)=some (.inl v')/\_;unfold Jl;rw[K,Bq,QP,E,Bq,Y3];by_cases Q:p.1=-1
  ·obtain⟨z,G⟩:=u p.2.2.1
   rw[Uc Q,t,Bq,G,Bq];by_cases f:z=(k:Int)
   ·rw[Uc f,Zk (by grind),QR (n:=2*(k:Int)),QR (n:=2*(k:Int)+1)]
    refine⟨_,rfl,rfl,by grind,λx l=>?_⟩;rcases Uu.1 l with l|l
    ·exact h x l
    ·simp only[UD,UZ,Ks]at l
     rcases l with rfl|rfl
     ·exact⟨k,p,0,by omega,g,by omega,by grind⟩
     ·exact⟨k,p,1,by omega,g,by omega,rfl⟩
   ·rw[Ue f]
    grind
  ·rw[Ue Q]
   grind
 ·rintro⟨v0,v1,⟨⟩⟩ ⟨rfl,a,h⟩
  dsimp only at a h;exact tail v0 _ _ (by omega) h K (Uf _)
variable (code:List Int)
theorem ZsK (f:bnd (.sl (.int .u8)) code):Zji code=some true:=by
 unfold Zji ZsL;rw[Bq];by_cases h:decide ((4096:Int)<(code.length:Int))=true
 ·rw[Uc h]
 rw[Ue h];have l:code.length<=4096:=by
  grind
 have L:=bytesD f;obtain⟨⟨b,s⟩,N,j,a⟩:=Zso L l;have e:IntKind.wrap IntKind.u8 ((5:Int)+7)=12:=by decide
 have d:IntKind.wrap IntKind.u8 ((3:Int)*5)=15:=by decide
 obtain ⟨⟨X,E,c,l',t'⟩,H,_,_,z,_⟩:=ZtW (code:=[5,12,15]++code) (λx g=>by
  grind) (by grind)
 unfold ZnP;rw[N,Bq,e,d,Zk (by grind),Bq,H,Bq,show ZeV (b,s).fst (b,s).snd (X,E,c,l',t').snd.snd.fst=some true from ZEO b s c j.1 a z];rfl
structure Cut (c:ZDG):Prop where
 by':∀x∈Hc c,0<=x/\x<=255
 len:(Hc c).length<=1048576
variable {c:ZDG}
theorem ZOz (h:Cut c):Y8 (ZOg c) (λr=>(0<=r.1/\r.1<=255)/\Cut r.2):=by
 obtain⟨d,f⟩:=h;unfold ZOg;refine Y8.ite (λ_=>.ret ⟨by dsimp only;omega,d,f⟩) (λn=>?_);refine .at (U6 _) (by omega) λx l _=>.guard (by omega) (.guard (U6 _) (.ret ?_));have b:=d x l;rw[QR];refine⟨b,λy i=>d y ?_,?_⟩;all_goals grind
def Sz (n:Int):Prop:=0<=n/\n<=65535
theorem ZOk (h:Cut c):Y8 (ZOe c) (λr=>Sz r.1/\Cut r.2):=by
 unfold ZOe;refine(ZOz h).bind λr ⟨d,f⟩=>Y8.ite (λ_=>?_) (λ_=>.ret ⟨⟨d.1,by omega⟩,f⟩);refine(ZOz f).bind λa ⟨g,i⟩=>(ZOz i).bind λb ⟨j,I⟩=>.ret ⟨?_,I⟩;show 0<=Wq (Wq (256*a.1)+b.1)/\_;rw[QR (n:=256*a.1),QR];omega
theorem ZOc (h:Cut c):Y8 (ZOb c) (λr=>Cut r.2):=by
 unfold ZOb;refine(ZOz h).bind λr ⟨d,f⟩=>Y8.ite (λ_=>.ret f) (λ_=>?_);refine Y8.loop (λv=>0<=v.2.1/\v.2.1<=8/\Cut (v.2.2.1,())) (λv=>(8-v.2.1).toNat) ⟨U6 _,by dsimp only;omega,f⟩ ?_;rintro⟨n,i,c1,⟨⟩⟩ ⟨a,j,I⟩;dsimp only at a j I;show Y8 (ZOn n i c1) _;unfold ZOn;have C:Wq (i+1)=i+1:=QR;rw[C];refine Y8.ite (λl=>?_) (λ_=>.ret I);exact(ZOz I).bind λr ⟨_,H⟩=>.ret ⟨⟨by dsimp only;omega,by dsimp only;omega,H⟩,by dsimp only;omega⟩
theorem ZOl {α:Type} {elem:ZDG->Option (α×ZDG)} {P:α->Prop} (m:∀c,Cut c->Y8 (elem c) (λr=>P r.1/\Cut r.2)) {w:Nat} (H:w<=1000) {step:List α×Int×List Int×Unit->Option ((List α×Int×List Int×Unit)⊕(List α×ZDG))}
  (s:∀out n c1,step (out,n,c1,())=if(0:Int)<n then(elem (c1,())).bind λr=>Zy ((List.length out+List.length [r.1])*w<=(140737488355328:Nat)) <| some (.inl (out++[r.1],Wq (n-1),r.2.1,()))else some (.inr (out,(c1,())))) {n:Int} {c1:List Int} (f:Sz n) (q:Cut (c1,())) :
  Y8 (ZA step ([],n,c1,())) (λr=>(r.1.length<=65535/\∀x∈r.1,P x)/\Cut r.2):=by
 refine Y8.loop (λv=>0<=v.2.1/\(v.1.length:Int)+v.2.1<=65535/\(∀x∈v.1,P x)/\Cut (v.2.2.1,())) (λv=>v.2.1.toNat) ⟨f.1,by dsimp only;rw[Uo];have:=f.2;omega,λx l=>(by cases l),q⟩ ?_;rintro⟨out,k,c2,⟨⟩⟩ ⟨a,j,i,I⟩;dsimp only at a j i I;rw[s];refine Y8.ite (λb=>?_) (λ_=>.ret ⟨⟨by dsimp only;omega,i⟩,I⟩);refine(m _ I).bind λr ⟨g,h⟩=>.guard ?_ (.ret ⟨⟨?_,?_,ZeH i g,h⟩,?_⟩)
 ·simp only[Um,Uo]
  have:(out.length+(0+1))*w<=65536*1000:=Ku (by omega) H;omega
 ·dsimp only
  rw[QR];omega
 ·dsimp only
  rw[QR,Ug];grind
 ·dsimp only
  rw[QR];omega
theorem ZOG (h:Cut c):Y8 (ZOf c) (λr=>r.1.length<=65535/\Cut r.2):=by
 unfold ZOf;refine(ZOk h).bind λe ⟨f,d⟩=>?_;refine Y8.loop (λv=>0<=v.2.1/\(v.1.length:Int)+v.2.1<=65535/\Cut (v.2.2.1,())) (λv=>v.2.1.toNat) ⟨f.1,by dsimp only;rw[Uo];have:=f.2;omega,d⟩ ?_;rintro⟨out,k,c2,⟨⟩⟩ ⟨I,j,i⟩;dsimp only at I j i;show Y8 (ZOr out k c2) _;unfold ZOr;refine Y8.ite (λa=>?_) (λ_=>.ret ⟨by dsimp only;unfold bytesOf;grind,i⟩);refine(ZOz i).bind λr ⟨g,H⟩=>.guard (by grind) (.ret ⟨⟨?_,?_,H⟩,?_⟩)
 ·dsimp only
  rw[QR];omega
 ·dsimp only
  rw[QR,Ug];grind
 ·dsimp only
  rw[QR];omega
theorem ZOo (h:Cut c):Y8 (ZOd c) (λr=>sm (.sl (.int .i64)) r.1/\Cut r.2):=by
 unfold ZOd;refine(ZOk h).bind λe ⟨f,d⟩=>?_;exact(ZOl (elem:=ZOb) (P:=λ_=>True) (λc q=>(ZOc q).mono λ_ h=>⟨trivial,h⟩) (w:=8) (by omega) (λ_ _ _=>rfl) f d).mono λr ⟨⟨H,_⟩,g⟩=>⟨smI (by omega),g⟩
theorem ZOX {t:Ty} {l:List t.den} (h:l.length<=65535/\∀x∈l,sm t x):sm (.sl t) l:=smL (by omega) h.2
theorem smT {s:List UInt8} (h:s.length<=65535):sm .str s:=smS (by omega)
theorem ZPJ (h:Cut c):Y8 (ZOw c) (λr=>sm Zaw r.1/\Cut r.2):=by
 unfold ZOw;exact(ZOo h).bind λe ⟨s0,m⟩=>(ZOo m).bind λa ⟨s,d⟩=>(ZOo d).bind λb ⟨S,f⟩=>.ret ⟨⟨s0,s,S,trivial⟩,f⟩
theorem ZOY (h:Cut c):Y8 (ZOh c) (λr=>sm (.sl Zaw) r.1/\Cut r.2):=by
 unfold ZOh;refine(ZOk h).bind λe ⟨n,d⟩=>?_;exact(ZOl (elem:=ZOw) (P:=sm Zaw) (λc q=>ZPJ q) (w:=72) (by omega) (λ_ _ _=>rfl) n d).mono λr ⟨f,g⟩=>⟨ZOX f,g⟩
theorem ZPW (h:Cut c):Y8 (ZOL c) (λr=>sm Znm r.1/\Cut r.2):=by
 unfold ZOL;exact(ZOG h).bind λe ⟨s0,m⟩=>(ZOc m).bind λa d=>(ZOc d).bind λb f=>(ZOz f).bind λi ⟨_,g⟩=>.ret ⟨⟨smT s0,trivial,trivial,trivial,trivial⟩,g⟩
theorem ZPS (h:Cut c):Y8 (ZOv c) (λr=>sm (.sl Znm) r.1/\Cut r.2):=by
 unfold ZOv;refine(ZOk h).bind λe ⟨n,d⟩=>?_;exact(ZOl (elem:=ZOL) (P:=sm Znm) (λc q=>ZPW q) (w:=40) (by omega) (λ_ _ _=>rfl) n d).mono λr ⟨f,g⟩=>⟨ZOX f,g⟩
theorem ZPO (h:Cut c):Y8 (ZOK c) (λr=>sm Zof r.1/\Cut r.2):=by
 unfold ZOK;exact(ZOc h).bind λe m=>(ZOc m).bind λa d=>(ZOc d).bind λR f=>(ZOc f).bind λk g=>(ZOY g).bind λl ⟨b,i⟩=>(ZOY i).bind λn ⟨s,j⟩=>.ret ⟨⟨trivial,trivial,trivial,trivial,b,s,trivial⟩,j⟩
theorem ZPP (h:Cut c):Y8 (ZOu c) (λr=>sm (.sl Zof) r.1/\Cut r.2):=by
 unfold ZOu;refine(ZOk h).bind λe ⟨n,d⟩=>?_;exact(ZOl (elem:=ZOK) (P:=sm Zof) (λc q=>ZPO q) (w:=80) (by omega) (λ_ _ _=>rfl) n d).mono λr ⟨f,g⟩=>⟨ZOX f,g⟩
theorem ZPQ (h:Cut c):Y8 (ZOA c) (λr=>sm Zcq r.1/\Cut r.2):=by
 unfold ZOA;exact(ZOG h).bind λe ⟨s0,m⟩=>(ZOc m).bind λa d=>(ZPS d).bind λR ⟨S,f⟩=>(ZPP f).bind λk ⟨t,g⟩=>(ZOo g).bind λl ⟨b,i⟩=>(ZOc i).bind λn j=>(ZOc j).bind λw I=>.ret ⟨⟨smT s0,trivial,S,t,b,trivial,trivial,trivial⟩,I⟩
theorem ZPI (h:Cut c):Y8 (ZOt c) (λr=>sm X9 r.1/\Cut r.2):=by
 unfold ZOt ZOC;refine Y8.bind (P:=λr=>sm (.sl Zcq) r.1/\Cut r.2) ?_ λr ⟨s,h⟩=>.ret ⟨⟨s,trivial⟩,h⟩;refine(ZOk h).bind λe ⟨n,d⟩=>?_;exact(ZOl (elem:=ZOA) (P:=sm Zcq) (λc q=>ZPQ q) (w:=112) (by omega) (λ_ _ _=>rfl) n d).mono λr ⟨f,g⟩=>⟨ZOX f,g⟩
theorem ZPF (h:Cut c):Y8 (ZOj c) (λr=>sm Jf r.1/\Cut r.2):=by
 unfold ZOj;exact(ZOG h).bind λe ⟨s0,m⟩=>(ZOc m).bind λa d=>(ZOo d).bind λb ⟨S,f⟩=>.ret ⟨⟨smT s0,trivial,S,trivial⟩,f⟩
theorem ZPT (h:Cut c):Y8 (ZOF c) (λr=>sm Zo7 r.1/\Cut r.2):=by
 unfold ZOF;exact(ZOG h).bind λe ⟨s0,m⟩=>(ZOc m).bind λa d=>(ZOc d).bind λb f=>.ret ⟨⟨smT s0,trivial,trivial,trivial⟩,f⟩
theorem ZPu (h:Cut c):Y8 (ZOs c) (λr=>sm ZbR r.1/\Cut r.2):=by
 unfold ZOs;exact(ZOo h).bind λe ⟨s0,m⟩=>(ZOo m).bind λa ⟨s,d⟩=>(ZOo d).bind λb ⟨S,f⟩=>(ZOo f).bind λi ⟨t,g⟩=>.ret ⟨⟨s0,s,S,t,trivial⟩,g⟩
theorem ZPG (h:Cut c):Y8 (ZOy c) (λr=>sm YN r.1/\Cut r.2):=by
 unfold ZOy ZOm ZOq ZOD;refine Y8.bind (P:=λr=>sm (.sl Jf) r.1/\Cut r.2) ?_ λr ⟨s,h⟩=>Y8.bind (P:=λr=>sm (.sl .str) r.1/\Cut r.2) ?_ λR ⟨S,d⟩=>Y8.bind (P:=λr=>sm (.sl Zo7) r.1/\Cut r.2) ?_ λb ⟨a,f⟩=>.ret ⟨⟨s,S,a,trivial⟩,f⟩
 ·refine(ZOk h).bind λe ⟨n,d⟩=>?_
  exact(ZOl (elem:=ZOj) (P:=sm Jf) (λc q=>ZPF q) (w:=48) (by omega) (λ_ _ _=>rfl) n d).mono λr ⟨f,g⟩=>⟨ZOX f,g⟩
 ·refine(ZOk h).bind λe ⟨n,d⟩=>?_
  exact(ZOl (elem:=ZOf) (P:=sm .str) (λc q=>(ZOG q).mono λ_ h=>⟨smT h.1,h.2⟩) (w:=16) (by omega) (λ_ _ _=>rfl) n d).mono λr ⟨f,g⟩=>⟨ZOX f,g⟩
 ·refine(ZOk d).bind λe ⟨n,d⟩=>?_
  exact(ZOl (elem:=ZOF) (P:=sm Zo7) (λc q=>ZPT q) (w:=32) (by omega) (λ_ _ _=>rfl) n d).mono λr ⟨f,g⟩=>⟨ZOX f,g⟩
theorem ZPK (h:Cut c):Y8 (ZOH c) (λr=>sm Ya r.1/\Cut r.2):=by
 unfold ZOH ZOE;refine(ZPI h).bind λe ⟨s0,m⟩=>(ZPG m).bind λa ⟨s,d⟩=>Y8.bind (P:=λr=>sm (.sl ZbR) r.1/\Cut r.2) ?_ λb ⟨S,f⟩=>.ret ⟨⟨s0,s,S,trivial⟩,f⟩;refine(ZOk d).bind λe ⟨n,d⟩=>?_;exact(ZOl (elem:=ZOs) (P:=sm ZbR) (λc q=>ZPu q) (w:=96) (by omega) (λ_ _ _=>rfl) n d).mono λr ⟨f,g⟩=>⟨ZOX f,g⟩
theorem ZPN (h:Cut c):Y8 (ZOB c) (λr=>sm XI r.1/\Cut r.2):=by
 unfold ZOB;exact(ZOc h).bind λe m=>(ZOc m).bind λa d=>(ZOc d).bind λb f=>(ZOc f).bind λR g=>(ZOc g).bind λl i=>(ZOG i).bind λk ⟨s,j⟩=>(ZPu j).bind λw ⟨S,I⟩=>.ret ⟨⟨trivial,trivial,trivial,trivial,trivial,smT s,S,trivial⟩,I⟩
theorem ZPL (h:Cut c):Y8 (ZOp c) (λr=>sm (.sl XI) r.1/\Cut r.2):=by
 unfold ZOp;refine(ZOk h).bind λe ⟨n,d⟩=>?_;exact(ZOl (elem:=ZOB) (P:=sm XI) (λc q=>ZPN q) (w:=152) (by omega) (λ_ _ _=>rfl) n d).mono λr ⟨f,g⟩=>⟨ZOX f,g⟩
theorem ZPH (h:Cut c):Y8 (ZOx c) (λr=>sm XR r.1):=by
 unfold ZOx;exact(ZOG h).bind λe ⟨s0,m⟩=>(ZOc m).bind λa d=>(ZOc d).bind λb f=>(ZOc f).bind λi g=>(ZOc g).bind λl H=>.ret (ZBe (c:=(e.1,a.1,b.1,i.1,l.1,())) (Ko s0 (by decide)))
theorem ZOW (b:bnd (.sl (.int .u8)) code):ZOi code=some true:=by
 have p:((Zji code).bind λFnTop0=>some FnTop0)=some true:=by
  rw[ZsK code b];rfl
 have L:=bytesD b;unfold ZOi;by_cases d:(1048576:Int)<(code.length:Int)
 ·rw[Uc d]
 rw[Ue d];by_cases f:(code.length:Int)=0
 ·rw[Uc f,p]
 rw[Ue f];obtain⟨x,h,_⟩:=Zit (l:=code) (i:=0) (U6 _);rw[h,Bq];by_cases g:x<128
 ·rw[Uc g,p]
 rw[Ue g,Ra,Zk (U6 _)];have t:Cut (List.take (Int.toNat (↑(List.length code):Int)-Int.toNat (1:Int)) (List.drop (Int.toNat (1:Int)) code),()):=by
  refine⟨λy H=>L y (List.mem_of_mem_drop (KJ H)),?_⟩;grind
 obtain⟨r,E,s0,c0⟩:=ZPK t;obtain⟨R,e,s,c1⟩:=ZPL c0;obtain⟨c,a,S⟩:=ZPH c1;rw[E,Bq,e,Bq,a,Bq,ZEO r.1 R.1 c.1 s0 s S];rfl
end Go.Proofs.YtoijdogpgpbddaaGreatDoor
