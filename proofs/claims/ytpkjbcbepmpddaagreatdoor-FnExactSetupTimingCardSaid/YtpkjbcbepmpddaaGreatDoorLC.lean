/-
  Plain laws: the reference's loops: the first of them.
-/
import Derived.Test.YtpkjbcbepmpddaaGreatDoorLB
import Derived.Test.YtpkjbcbepmpddaaGreatDoorLA
import Derived.Test.YtpkjbcbepmpddaaGreatDoorM
import Derived.Test.YtpkjbcbepmpddaaGreatDoorE1
namespace Go.Proofs.YtpkjbcbepmpddaaGreatDoor
set_option linter.unusedVariables false
set_option linter.unusedSimpArgs false
open Go Go.Sx
theorem Zyi {L:List Zm} {lv:List Bool} {v c:Int}:Rch (ZmK L) lv (λx=>x=v) c<->RR L lv c v:=by
 constructor
 ·intro h
  induction h with
  | base e=>rw[e];exact RR.refl _
  | step _ hl ih=>exact RR.trans (.step (RR.refl _) (ZvA hl)) ih
 ·intro h
  induction h with
  | base e=>exact .base e.symm
  | step _ hl ih=>exact RR.trans (L:=ZmK L) (.step (RR.refl _) (Zts hl)) ih
theorem ZCI {L:List Zm} {lv:List Bool} (hLs:L.length<=6000) (hlv:lv.length=L.length) (v:Int):ZbO (ZiJ L lv v) (λr=>r=true<->Live L lv v v):=by
 unfold ZiJ;refine ZbO.loop (λs=>0<=s.1/\s.1<=6000/\∀ (j:Nat) (l:Zm),(j:Int)<s.1->L[j]?=some l->lv[j]?=some true->Zm.From l=v->Zm.To l=v->False) (λs=>(6000-s.1).toNat) ⟨Int.le_refl _,by dsimp only;omega,λj l hj=>by dsimp only at hj;omega⟩ ?_;rintro ⟨k,⟨⟩⟩ ⟨k0,k1,k2⟩;dsimp only at k0 k1 k2;show ZbO (Zfl L lv v k) _;unfold Zfl;have en:Wq (k+1)=k+1:=YT (by omega) (by omega);have st:(∀ l,L[k.toNat]?=some l->lv[k.toNat]?=some true->Zm.From l=v->Zm.To l=v->False)->∀ (j:Nat) (l:Zm),(j:Int)<k+1->L[j]?=some l->lv[j]?=some true->Zm.From l=v->Zm.To l=v->False:=λhn j l hj h1 h2 h3 h4=>by
  by_cases e:(j:Int)<k
  ·exact k2 j l e h1 h2 h3 h4
  ·have ej:j=k.toNat:=by omega
   subst ej;exact hn l h1 h2 h3 h4
 simp only[en];refine ZbO.ite (λhk=>?_) (λhk=>.ret (show false=true<->_ from ⟨λq=>(by cases q),λ⟨j,l,h1,h2,h3,h4⟩=>(k2 j l (by have:=(List.getElem?_eq_some_iff.1 h1).1;omega) h1 h2 h3 h4).elim⟩));refine .at k0 (by omega) λx hx hx2=>?_;refine ZbO.ite (λhxt=>?_) (λhxf=>.ret ⟨⟨by dsimp only;omega,by dsimp only;omega,st λl _ h2 _ _=>?_⟩,by dsimp only;omega⟩)
 ·refine .at k0 hk λl hl hl2=>?_
  refine ZbO.ite (λh1=>?_) (λh1=>.ret ⟨⟨by dsimp only;omega,by dsimp only;omega,st λl' e1 _ e3 _=>?_⟩,by dsimp only;omega⟩)
  ·refine ZbO.ite (λh2=>?_) (λh2=>.ret ⟨⟨by dsimp only;omega,by dsimp only;omega,st λl' e1 _ _ e4=>?_⟩,by dsimp only;omega⟩)
   ·exact .ret (show true=true<->_ from ⟨λ_=>⟨k.toNat,l,hl2,by rw[hx2,hxt],h1,h2⟩,λ_=>rfl⟩)
   ·rw[hl2] at e1
    injection e1 with e1
    subst e1;exact h2 e4
  ·rw[hl2] at e1
   injection e1 with e1
   subst e1;exact h1 e3
 ·rw[hx2] at h2
  injection h2 with h2
  exact hxf h2
def ZpA (L:List Zm) (lv:List Bool) (v:Int) (l:List Bool):Prop:=∀ a:Nat,l[a]?=some true->∃ u,(0<=u/\u<v)/\RR L lv u (a:Int)/\RR L lv (a:Int) u
theorem ZpA.mono {L:List Zm} {lv:List Bool} {v:Int} {l:List Bool} (h:ZpA L lv v l):ZpA L lv (v+1) l:=λa ha=>by
 obtain ⟨u,h1,h2⟩:=h a ha;exact ⟨u,⟨h1.1,by omega⟩,h2⟩
theorem Zm6 {N:Nat} {L:List Zm} {lv:List Bool} (hNs:N<=1000) (hL:InN N L) (hLs:L.length<=6000) (hlv:lv.length=L.length):ZbO (Zhl (N:Int) L lv) (Zb8 N L lv (N:Int)):=by
 unfold Zhl;refine .guard (by omega) (.guard (Int.le_refl _) (.guard (by omega) (.guard (by omega) ?_)));refine ZbO.loop (λs=>0<=s.2.1/\s.2.1<=(N:Int)/\(s.1.length:Int)<=s.2.1/\Zb8 N L lv s.2.1 s.1/\s.2.2.1.length=N/\ZpA L lv s.2.1 s.2.2.1) (λs=>((N:Int)-s.2.1).toNat) ⟨Int.le_refl _,by dsimp only;omega,by grind,(by show ∀ u:Int,0<=u->u<0->¬NT L lv u;intro u h0 h1;omega),by simp,λa ha=>by grind⟩ ?_;rintro ⟨out,v,l0,⟨⟩⟩ ⟨i0,i1,i2,i3,i4,i5⟩;dsimp only at i0 i1 i2 i3 i4 i5;show ZbO (Zem (N:Int) L lv out v l0) _;unfold Zem;have en:Wq (v+1)=v+1:=YT (by omega) (by omega);refine ZbO.ite (λhv=>?_) (λhv=>.ret (show Zb8 N L lv (N:Int) out from by rw[show (N:Int)=v by omega];exact i3));refine .at i0 (by omega) λx hx hx2=>?_;refine ZbO.ite (λhxt=>?_) (λ_=>?_)
 ·rw[en]
  refine .ret ⟨⟨by dsimp only;omega,by dsimp only;omega,by dsimp only;omega,i3.skip λe hn=>?_,i4,i5.mono⟩,by dsimp only;omega⟩;rw[hxt] at hx2;obtain ⟨u,u1,u2,u3⟩:=i5 v.toNat hx2;rw[show ((v.toNat:Nat):Int)=v by omega] at u2 u3;subst e;exact i3 u u1.1 u1.2 (ZAA u2 u3 (by omega))
 obtain ⟨r0,e0,l0',h0⟩:=ZtF hNs hL hLs hlv (node:=v) ⟨i0,hv⟩;obtain ⟨r1,e1,l1',h1⟩:=ZtF (L:=ZmK L) hNs (ZB8 hL) (by rw[Zt7];exact hLs) (by rw[Zt7];exact hlv) (node:=v) ⟨i0,hv⟩;rw[<-Zy5] at e1;rw[e0,Bq,e1,Bq];refine ZbO.loop (λs=>(0<=s.2.1/\s.2.1<=(N:Int)/\(s.1.length:Int)<=s.2.1)/\Zdp (λc:Int=>c) s.1/\(s.2.2.1.length=N/\ZpA L lv (v+1) s.2.2.1)/\∀ c,c∈s.1<->((0<=c/\c<s.2.1)/\RR L lv v c/\RR L lv c v)) (λs=>((N:Int)-s.2.1).toNat)
  ⟨⟨Int.le_refl _,by dsimp only;omega,by grind⟩,(by show Zdp (λc:Int=>c) [];exact List.Pairwise.nil),⟨i4,i5.mono⟩,λc=>⟨λh=>(by cases h),λh=>by grind⟩⟩ ?_
 rintro ⟨m,k,l,⟨⟩⟩ ⟨⟨j0,j1,j2⟩,j3,⟨j4,j6⟩,j5⟩;dsimp only at j0 j1 j2 j3 j4 j5 j6;show ZbO (Zel (N:Int) L lv out v r0 r1 m k l) _;unfold Zel;have ek:Wq (k+1)=k+1:=YT (by omega) (by omega);simp only[ek,en];refine ZbO.ite (λhk=>?_) (λhk=>?_)
 ·refine .at j0 (by omega) λx hx hx2=>?_
  have hk3:((k.toNat:Nat):Int)=k:=by omega
  have a0:=h0 k.toNat x hx2;rw[hk3] at a0;have skip:(¬(RR L lv v k/\RR L lv k v))->∀ c,c∈m<->((0<=c/\c<k+1)/\RR L lv v c/\RR L lv c v):=λhn c=>by
   rw[j5 c];constructor
   ·rintro ⟨h1,h2⟩;exact ⟨⟨h1.1,by omega⟩,h2⟩
   ·rintro ⟨h1,h2⟩
    refine ⟨⟨h1.1,?_⟩,h2⟩;by_cases e:c=k
    ·subst e;exact absurd h2 hn
    ·omega
  refine ZbO.ite (λhxt=>?_) (λhxf=>?_)
  ·refine .at j0 (by omega) λy hy hy2=>?_
   have a1:=h1 k.toNat y hy2;rw[hk3,Zyi] at a1;refine ZbO.ite (λhyt=>?_) (λhyf=>?_)
   ·have b0:=a0.1 hxt
    have b1:=a1.1 hyt;refine .guard (by grind) ?_;refine .at j0 (by omega) λ_ _ _=>?_;refine .ret ⟨⟨⟨by dsimp only;omega,by dsimp only;omega,by simp_all⟩,?_,⟨by grind,λa ha=>?_⟩,λc=>?_⟩,by dsimp only;omega⟩
    ·show Zdp (λc:Int=>c) (m++[k])
     refine List.pairwise_append.2 ⟨j3,List.pairwise_singleton ..,λa ha b hb=>?_⟩;rw[List.mem_singleton.1 hb];exact ((j5 a).1 ha).1.2
    ·dsimp only at ha
     rw[List.getElem?_set] at ha;split at ha
     ·rename_i e
      rw[show (a:Int)=k by omega];exact ⟨v,⟨i0,by omega⟩,b0,b1⟩
     ·exact j6 a ha
    ·dsimp only
     rw[List.mem_append,List.mem_singleton,j5 c];constructor
     ·rintro (⟨h1,h2⟩ | rfl)
      ·exact ⟨⟨h1.1,by omega⟩,h2⟩
      ·exact ⟨⟨j0,by omega⟩,b0,b1⟩
     ·rintro ⟨h1,h2⟩
      by_cases e:c=k
      ·exact .inr e
      ·exact .inl ⟨⟨h1.1,by omega⟩,h2⟩
   ·exact .ret ⟨⟨⟨by dsimp only;omega,by dsimp only;omega,by dsimp only;omega⟩,j3,⟨j4,j6⟩,skip λq=>hyf (a1.2 q.2)⟩,by dsimp only;omega⟩
  ·exact .ret ⟨⟨⟨by dsimp only;omega,by dsimp only;omega,by dsimp only;omega⟩,j3,⟨j4,j6⟩,skip λq=>hxf (a0.2 q.1)⟩,by dsimp only;omega⟩
 ·have hkN:k=(N:Int):=by omega
  have hS:Zzm N L lv v m:=⟨λc=>by rw[j5 c,hkN],j3⟩;have hT:=hS.two hL ⟨i0,hv⟩;have hml:m.length<=N:=by omega
  refine ZbO.ite (λh1=>?_) (λh1=>?_)
  ·refine .guard (by grind) (.ret ⟨⟨by dsimp only;omega,by dsimp only;omega,by grind,i3.add i0 (hT.2 (.inl (by omega))) hS,j4,j6⟩,by dsimp only;omega⟩)
  ·refine (ZCI hLs hlv v).bind λq hq=>?_
   refine ZbO.ite (λhqt=>?_) (λhqf=>?_)
   ·exact .guard (by grind) (.ret ⟨⟨by dsimp only;omega,by dsimp only;omega,by grind,i3.add i0 (hT.2 (.inr (hq.1 hqt))) hS,j4,j6⟩,by dsimp only;omega⟩)
   ·refine .ret ⟨⟨by dsimp only;omega,by dsimp only;omega,by dsimp only;omega,i3.skip λ_ hn=>?_,j4,j6⟩,by dsimp only;omega⟩
    rcases hT.1 hn with z | z
    ·omega
    ·exact hqf (hq.2 z)
def ZoQ (lv:List Bool) (m:List Int) (k:Nat) (x:Zm) (s:Int):Int:=if (lv[k]?).getD false=true/\Zm.Kind x=1/\Zm.From x∈m/\Zm.To x∈m then (k:Int) else s
def lastOf (L:List Zm) (lv:List Bool) (m:List Int):Int:=Qe (ZoQ lv m) 0 L (-1)
def ZFD (L:List Zm) (lv:List Bool) (m:List Int) (k:Nat):Prop:=∃ x,L[k]?=some x/\lv[k]?=some true/\Zm.Kind x=1/\Zm.From x∈m/\Zm.To x∈m
theorem Zvy {lv:List Bool} {m:List Int} {k:Nat} {x:Zm} {s:Int} (h1:lv[k]?=some true) (h2:Zm.Kind x=1) (h3:Zm.From x∈m) (h4:Zm.To x∈m):ZoQ lv m k x s=(k:Int):=by
 unfold ZoQ;rw[if_pos ⟨by rw[h1];rfl,h2,h3,h4⟩]
theorem Zll {lv:List Bool} {m:List Int} {k:Nat} {x:Zm} {s:Int} (h:lv[k]?=some true->Zm.Kind x=1->Zm.From x∈m->Zm.To x∈m->False):ZoQ lv m k x s=s:=by
 unfold ZoQ;rw[if_neg];rintro ⟨h1,h2,h3,h4⟩;refine h ?_ h2 h3 h4;cases e:lv[k]? with
 | none=>rw[e] at h1;cases h1
 | some z=>rw[e] at h1;exact congrArg some h1
theorem ZAr {L:List Zm} {lv:List Bool} {m:List Int}:∀ n,n<=L.length->(Qe (ZoQ lv m) 0 (L.take n) (-1)=-1/\∀ k,k<n->¬ZFD L lv m k)\/∃ k:Nat,Qe (ZoQ lv m) 0 (L.take n) (-1)=(k:Int)/\k<n/\ZFD L lv m k
 | 0,_=>.inl ⟨by rw[List.take_zero];rfl,λk h=>by omega⟩
 | n+1,hn=>by
  have hnl:n<L.length:=by omega
  have hx:L[n]?=some (L[n]'hnl):=List.getElem?_eq_getElem hnl;generalize L[n]'hnl=x at hx;rw[ZcN hx];by_cases c:ZFD L lv m n
  ·obtain ⟨y,e1,e2,e3,e4,e5⟩:=id c
   rw[hx] at e1;injection e1 with e1
   subst e1;exact .inr ⟨n,Zvy e2 e3 e4 e5,by omega,c⟩
  ·rw[Zll λh1 h2 h3 h4=>c ⟨x,hx,h1,h2,h3,h4⟩]
   rcases ZAr (L:=L) (lv:=lv) (m:=m) n (by omega) with ⟨h1,h2⟩ | ⟨k,h1,h2,h3⟩
   ·refine .inl ⟨h1,λk hk=>?_⟩
    by_cases e:k=n
    ·rw[e];exact c
    ·exact h2 k (by omega)
   ·exact .inr ⟨k,h1,by omega,h3⟩
theorem ZD9 {L:List Zm} {lv:List Bool} {m:List Int} (h:∃ k,ZFD L lv m k):∃ k:Nat,lastOf L lv m=(k:Int)/\ZFD L lv m k:=by
 have:=ZAr (L:=L) (lv:=lv) (m:=m) L.length (Nat.le_refl _);rw[List.take_length] at this;rcases this with ⟨_,h2⟩ | ⟨k,h1,_,h3⟩
 ·obtain ⟨k,hk⟩:=h
  obtain ⟨x,hx,_⟩:=id hk;exact absurd hk (h2 k (List.getElem?_eq_some_iff.1 hx).1)
 ·exact ⟨k,h1,h3⟩
def Zny (k:Nat) (x:Bool):List Int:=if x=true then [] else [(k:Int)]
def dead (lv:List Bool):List Int:=cat Zny 0 lv
theorem Zvc (k:Nat) (x:Bool):(Zny k x).length<=1:=by
 unfold Zny;split<;>simp
theorem ZqO {lv:List Bool} (hl:lv.length<=6000):Zo (λv=>JI lv v.1 v.2.1) (([]:List Int),(0:Int),())=some (.inr (dead lv)):=by
 refine XM (l:=lv) Zny [] (step:=λv=>JI lv v.1 v.2.1) (good:=.inr (dead lv)) (λk x hx hk=>?_) ?_
 ·have h1:=V4 (f:=Zny) (c:=1) (l:=lv.take k) (m:=0) (λk x _=>Zvc k x)
  rw[List.length_take] at h1;simp only[List.nil_append,JI,show (k:Int)<(lv.length:Int) from by omega,if_true,Zp,hx,Bq,Xm (show k<=1048576 by omega)];generalize cat Zny 0 (lv.take k)=acc at h1;unfold Zny;by_cases q:x=true
  ·rw[if_pos q,if_pos q,List.append_nil]
  ·rw[if_neg q,if_neg q,Zh (by simp only[List.length_cons,List.length_nil];omega)]
 ·simp only[List.nil_append,JI,Int.lt_irrefl,if_false]
  rfl
theorem Zzm.scc {N:Nat} {L:List Zm} {lv:List Bool} {v:Int} {m:List Int} (hL:InN N L) (h:Zzm N L lv v m) (hv:0<=v/\v<(N:Int)) (hn:NT L lv v):Scc N L lv v m where
 mem c:=by rw[h.mem c,Zyi]
 nod:=by
  rw[List.nodup_iff_pairwise_ne];exact List.Pairwise.imp (λ{a b} (h:a<b) (e:a=b)=>by omega) h.inc
 len:=by
  have hnd:m.Nodup:=by
   rw[List.nodup_iff_pairwise_ne];exact List.Pairwise.imp (λ{a b} (h:a<b) (e:a=b)=>by omega) h.inc
  have:=Zoe m (Zmu N) hnd (λx hx=>Zjh.2 ((h.mem x).1 hx).1);rw[Zpm] at this;exact this
 more:=by
  rcases (h.two hL hv).1 hn with q | ⟨k,l,h1,h2,h3,h4⟩
  ·exact .inl q
  ·exact .inr ⟨k,l,h1,h2,h3,h4⟩
 v0:=hv
def Zhv (N:Nat) (L:List Zm) (lv:List Bool) (m:List Int):Prop:=∃ w,(0<=w/\w<(N:Int))/\NT L lv w/\(∀ u,0<=u->u<w->¬NT L lv u)/\Zzm N L lv w m
theorem Zhv.unique {N:Nat} {L:List Zm} {lv:List Bool} {m m':List Int} (h:Zhv N L lv m) (h':Zhv N L lv m'):m=m':=by
 have a:Zb8 N L lv (N:Int) [m]:=h;have b:Zb8 N L lv (N:Int) [m']:=h';rcases a.unique b with ⟨e,_⟩ | ⟨x,t,t',e1,e2⟩
 ·cases e
 ·injection e1 with e1
  injection e2 with e2
  rw[e1,e2]
theorem Zhv.nt {N:Nat} {L:List Zm} {lv:List Bool} {m:List Int} (h:Zhv N L lv m):∃ v,NT L lv v:=by
 obtain ⟨w,_,h2,_⟩:=h;exact ⟨w,h2⟩
open Classical in
noncomputable def ZDX (b:Zd) (br:List Int):List Int:=if h:∃ m,Zhv (Vp b) (Zl b) (XY b br) m then Classical.choose h else []
theorem Zt5 {b:Zd} {br:List Int} {m:List Int} (h:Zhv (Vp b) (Zl b) (XY b br) m):ZDX b br=m:=by
 unfold ZDX;have hx:∃ m,Zhv (Vp b) (Zl b) (XY b br) m:=⟨m,h⟩;rw[dif_pos hx];exact (Classical.choose_spec hx).unique h
noncomputable def Zu8 (b:Zd):Nat->List Int->List Int
 | 0,br=>br
 | n+1,br=>match tr (∃ v,NT (Zl b) (XY b br) v) with
  | true=>Zu8 b n (br++[lastOf (Zl b) (XY b br) (ZDX b br)])
  | false=>br
theorem ZDJ {b:Zd} (h:Xy b) {br:List Int} {m:List Int} (hm:Zhv (Vp b) (Zl b) (XY b br) m):∃ k,ZFD (Zl b) (XY b br) m k:=by
 obtain ⟨w,h1,h2,_,h4⟩:=hm;obtain ⟨k,l,c1,c2,c3,c4,c5⟩:=(h4.scc (Zi9 h) h1 h2).cell (Zi9 h) (ZyN h);exact ⟨k,l,c1,c2,c3,c4,c5⟩
theorem Zuv {b:Zd} (h:Xy b) {br:List Int} {m:List Int} (hm:Zhv (Vp b) (Zl b) (XY b br) m):∃ k:Nat,lastOf (Zl b) (XY b br) m=(k:Int)/\k<(Zl b).length/\(XY b br)[k]?=some true/\List.set (XY b br) k false=XY b (br++[(k:Int)])/\ct (XY b (br++[(k:Int)]))+1=ct (XY b br):=by
 obtain ⟨k,e,x,hx,hl,_⟩:=ZD9 (ZDJ h hm);have hk:=(List.getElem?_eq_some_iff.1 hx).1;have hs:List.set (XY b br) k false=XY b (br++[(k:Int)]):=by
  have:=Ztr (n:=(Zl b).length) (s:=br) (x:=(k:Int)) (by omega) (by omega);rw[Int.toNat_natCast] at this;exact this
 refine ⟨k,e,hk,hl,hs,?_⟩;rw[<-hs];exact ZC8 _ _ hl
theorem ZA9 {b:Zd} (h:Xy b) {br:List Int} {m:List Int} {t:List (List Int)} (hm:Zhv (Vp b) (Zl b) (XY b br) m) (hml:m.length<=1048576) {k:Nat} (hk:lastOf (Zl b) (XY b br) m=(k:Int)) (hkl:k<(Zl b).length) :
  Zo (λs=>JJ (Zl b) (XY b br) s.1 s.2.1 s.2.2.1) ((-1:Int),(0:Int),m::t,())=some (.inl (List.set (XY b br) k false,())):=by
 have h6:=Y7 h;have hl:(XY b br).length=(Zl b).length:=QA _ _;have:ZbO (Zo (λs=>JJ (Zl b) (XY b br) s.1 s.2.1 s.2.2.1) ((-1:Int),(0:Int),m::t,())) (λr=>r=.inl (List.set (XY b br) k false,())):=by
  refine ZbO.loop (λs=>0<=s.2.1/\s.2.1<=((Zl b).length:Int)/\s.2.2.1=m::t/\s.1=Qe (ZoQ (XY b br) m) 0 ((Zl b).take s.2.1.toNat) (-1)) (λs=>(((Zl b).length:Int)-s.2.1).toNat)
   ⟨Int.le_refl _,by dsimp only;omega,rfl,rfl⟩ ?_
  rintro ⟨w,i,l1,⟨⟩⟩ ⟨i0,i1,i2,i3⟩;dsimp only at i0 i1 i2 i3;subst i2;show ZbO (JJ (Zl b) (XY b br) w i (m::t)) _;unfold JJ;have en:Wq (i+1)=i+1:=YT (by omega) (by omega);simp only[en];refine ZbO.ite (λhi=>?_) (λhi=>?_)
  ·have nx:∀ l,(Zl b)[i.toNat]?=some l->∀ w',w'=ZoQ (XY b br) m i.toNat l w->w'=Qe (ZoQ (XY b br) m) 0 ((Zl b).take (i+1).toNat) (-1):=λl hl w' e=>by
    rw[show (i+1).toNat=i.toNat+1 by omega,ZcN hl,e,i3]
   have hg:(Zl b)[i.toNat]?=some ((Zl b)[i.toNat]'(by omega)):=List.getElem?_eq_getElem _;refine .at i0 (by omega) λx hx hx2=>?_;refine ZbO.ite (λhxt=>?_) (λhxf=>?_)
   ·refine .at i0 hi λl hlm hl2=>?_
    refine ZbO.ite (λhkind=>?_) (λhkind=>?_)
    ·rw[show atI (m::t) (0:Int)=some m from rfl,Bq,ZiX _ _ hml,Bq]
     refine ZbO.ite (λq1=>?_) (λq1=>?_)
     ·rw[ZiX _ _ hml,Bq]
      refine ZbO.ite (λq2=>?_) (λq2=>?_)
      ·exact .ret ⟨⟨by dsimp only;omega,by dsimp only;omega,rfl,nx l hl2 _ (by rw[Zvy (by rw[hx2,hxt]) hkind (of_decide_eq_true q1) (of_decide_eq_true q2)];omega)⟩,by dsimp only;omega⟩
      ·exact .ret ⟨⟨by dsimp only;omega,by dsimp only;omega,rfl,nx l hl2 _ (by rw[Zll λ_ _ _ z=>q2 (decide_eq_true z)])⟩,by dsimp only;omega⟩
     ·exact .ret ⟨⟨by dsimp only;omega,by dsimp only;omega,rfl,nx l hl2 _ (by rw[Zll λ_ _ z _=>q1 (decide_eq_true z)])⟩,by dsimp only;omega⟩
    ·exact .ret ⟨⟨by dsimp only;omega,by dsimp only;omega,rfl,nx l hl2 _ (by rw[Zll λ_ z _ _=>hkind z])⟩,by dsimp only;omega⟩
   ·exact .ret ⟨⟨by dsimp only;omega,by dsimp only;omega,rfl,nx _ hg _ (by rw[Zll λz _ _ _=>by rw[hx2] at z;injection z with z;exact hxf z])⟩,by dsimp only;omega⟩
  ·have ei:i=((Zl b).length:Int):=by omega
   have ew:w=(k:Int):=by
    rw[i3,ei,Int.toNat_natCast,List.take_length,<-hk];rfl
   subst ew;refine .at (by omega) (by omega) λx _ _=>?_;exact .ret (show _=_ by rw[Int.toNat_natCast])
 obtain ⟨r,e,rfl⟩:=this;exact e
theorem ZsY {b:Zd} (h:Xy b):∀ (n:Nat) (br:List Int),ct (XY b br)<=n->Zo (λs=>Qa (Zl b) (Vp b:Int) s.1) (XY b br,())=some (dead (XY b (Zu8 b n br))):=by
 intro n;have h6:=Y7 h;have hn:=Zhe h;induction n with
 | zero =>
  intro br hc;obtain ⟨r,e1,hF⟩:=Zm6 (lv:=XY b br) (by omega) (Zi9 h) h6 (QA _ _);cases r with
  | nil =>
   refine YI ?_;show Qa (Zl b) (Vp b:Int) (XY b br)=_;unfold Qa;rw[e1,Bq,if_pos (by simp),ZqO (by rw[show (XY b br).length=(Zl b).length from QA _ _];exact h6)];rfl
  | cons m t =>
   have hm:Zhv (Vp b) (Zl b) (XY b br) m:=hF;obtain ⟨k,_,_,_,_,q⟩:=Zuv h hm;omega
 | succ n ih =>
  intro br hc;obtain ⟨r,e1,hF⟩:=Zm6 (lv:=XY b br) (by omega) (Zi9 h) h6 (QA _ _);unfold Zu8;cases r with
  | nil =>
   have hno:¬∃ v,NT (Zl b) (XY b br) v:=λ⟨v,hv⟩=>by
    have hin:=hv.inn (Zi9 h);exact hF v hin.1 hin.2 hv
   rw[ZP hno];refine YI ?_;show Qa (Zl b) (Vp b:Int) (XY b br)=_;unfold Qa;rw[e1,Bq,if_pos (by simp),ZqO (by rw[show (XY b br).length=(Zl b).length from QA _ _];exact h6)]
  | cons m t =>
   have hm:Zhv (Vp b) (Zl b) (XY b br) m:=hF;obtain ⟨k,k1,k2,_,k4,k5⟩:=Zuv h hm;rw[ZR hm.nt,Zt5 hm,k1];have hml:m.length<=1048576:=by
    obtain ⟨w,w1,w2,_,w4⟩:=id hm;have:=(w4.scc (Zi9 h) w1 w2).len;omega
   refine (Y1 (v':=(XY b (br++[(k:Int)]),())) ?_).trans (ih (br++[(k:Int)]) (by omega));show Qa (Zl b) (Vp b:Int) (XY b br)=_;unfold Qa;rw[e1,Bq,if_neg (by simp only[List.length_cons];omega),ZA9 h hm hml k1 k2,k4]
noncomputable def ZmB (b:Zd):List Int:=Zu8 b (Zl b).length []
theorem ZF6 (l:List Bool):ct l<=l.length:=List.countP_le_length
theorem ZuJ {b:Zd} (h:Xy b):Zfk b=some (dead (XY b (ZmB b))):=by
 have h6:=Y7 h;unfold Zfk;rw[ZdP h,Bq,ZhU _ _ h6 (by simp),Bq,Zlk h,Bq];refine ZsY h _ [] ?_;have:=ZF6 (XY b []);rw[show (XY b []).length=(Zl b).length from QA _ _] at this;exact this
def Zr0 (lv:List Bool) (node:Int) (k:Nat) (x:Zm):List Int:=if (lv[k]?).getD false=true then (if Zm.From x=node then (if Zm.To x=node then [(k:Int)] else []) else []) else []
theorem ZA3 (lv:List Bool) (node:Int) (k:Nat) (x:Zm):(Zr0 lv node k x).length<=1:=by
 unfold Zr0;grind
theorem Zvr {b:Zd} (h:Xy b) {v:ZF} (hv:VOk b v) {lv:List Bool} (hl:lv.length=(Zl b).length) (node:Int):JM (v,lv,()) node=some (tr (Live (Zl b) lv node node)):=by
 have h6:=Y7 h;have el:ZF.links (ZI.view ((v,lv,()):ZI))=Zl b:=hv.links;have ev:ZI.live ((v,lv,()):ZI)=lv:=rfl;unfold JM Xn;have:=XM (l:=Zl b) (ρ:=List Int) (Zr0 lv node) [] (step:=λu=>Yn (v,lv,()) (node,()) u.1 u.2.1) (good:=cat (Zr0 lv node) 0 (Zl b))
  (λk x hx hk=>by
   have hlv:lv[k]?=some (lv[k]'(by omega)):=List.getElem?_eq_getElem _;have hlen:=V4 (f:=Zr0 lv node) (c:=1) (l:=(Zl b).take k) (m:=0) (λk x _=>ZA3 lv node k x);rw[List.length_take] at hlen;simp only[Yn,el,ev,show (k:Int)<((Zl b).length:Int) from by omega,if_true,Zp,hx,hlv,Bq,Zav,List.nil_append,Xm (show k<=1048576 by omega)];generalize cat (Zr0 lv node) 0 ((Zl b).take k)=acc at hlen;unfold Zr0;rw[hlv];simp only[Option.getD_some];by_cases q1:lv[k]'(by omega)=true
   ·rw[if_pos q1,if_pos q1]
    by_cases q2:Zm.From x=node
    ·rw[if_pos q2,if_pos q2,Bq]
     by_cases q3:Zm.To x=node
     ·rw[if_pos (decide_eq_true q3),if_pos q3,Zh (by simp only[List.length_cons,List.length_nil];omega)]
     ·rw[if_neg (by rw[decide_eq_true_eq];exact q3),if_neg q3,List.append_nil]
    ·rw[if_neg q2,if_neg q2,Bq,if_neg (by decide),List.append_nil]
   ·rw[if_neg q1,if_neg q1,List.append_nil])
  (by simp only[Yn,el,Int.lt_irrefl,if_false,List.nil_append])
 rw[this,Bq];congr 1;rw[Bool.eq_iff_iff,decide_eq_true_eq,Xx];constructor
 ·intro hp
  have hp2:0<(cat (Zr0 lv node) 0 (Zl b)).length:=by omega
  obtain ⟨y,hy⟩:=List.exists_mem_of_length_pos hp2;obtain ⟨k,x,hx,hyx⟩:=Qj.1 hy;rw[Nat.zero_add] at hyx;unfold Zr0 at hyx;split at hyx
  ·rename_i q1
   split at hyx
   ·rename_i q2
    split at hyx
    ·rename_i q3
     refine ⟨k,x,hx,?_,q2,q3⟩;cases e:lv[k]? with
     | none=>rw[e] at q1;cases q1
     | some z=>rw[e] at q1;exact congrArg some q1
    ·cases hyx
   ·cases hyx
  ·cases hyx
 ·rintro ⟨k,x,h1,h2,h3,h4⟩
  have:(k:Int)∈cat (Zr0 lv node) 0 (Zl b):=Qj.2 ⟨k,x,h1,by
   rw[Nat.zero_add];unfold Zr0;rw[h2,Option.getD_some,if_pos rfl,if_pos h3,if_pos h4];exact List.mem_singleton.2 rfl⟩
  have:=List.length_pos_of_mem this;omega
def inF (lv:List Bool) (m:List Int) (k:Nat) (x:Zm):List Int:=if (lv[k]?).getD false=true/\Zm.Kind x=1/\Zm.From x∈m/\Zm.To x∈m then [(k:Int)] else []
theorem ZAf (lv:List Bool) (m:List Int) (k:Nat) (x:Zm):(inF lv m k x).length<=1:=by
 unfold inF;split<;>simp
theorem Zsz {b:Zd} (h:Xy b) {v:ZF} (hv:VOk b v) {lv:List Bool} (hl:lv.length=(Zl b).length) (m:List Int) (hm:m.length<=1048576):YG (v,lv,()) (m,())=some (cat (inF lv m) 0 (Zl b)):=by
 have h6:=Y7 h;have el:ZF.links (ZI.view ((v,lv,()):ZI))=Zl b:=hv.links;have ev:ZI.live ((v,lv,()):ZI)=lv:=rfl;have hLm:Len m:=by unfold Len;omega
 unfold YG;exact XM (l:=Zl b) (ρ:=List Int) (inF lv m) [] (step:=λu=>Yt (v,lv,()) (m,()) u.1 u.2.1) (good:=cat (inF lv m) 0 (Zl b))
  (λk x hx hk=>by
   have hlv:lv[k]?=some (lv[k]'(by omega)):=List.getElem?_eq_getElem _;have hlen:=V4 (f:=inF lv m) (c:=1) (l:=(Zl b).take k) (m:=0) (λk x _=>ZAf lv m k x);rw[List.length_take] at hlen;simp only[Yt,el,ev,show (k:Int)<((Zl b).length:Int) from by omega,if_true,Zp,hx,hlv,Bq,Zbi,List.nil_append,Xm (show k<=1048576 by omega),ZfH hLm];generalize cat (inF lv m) 0 ((Zl b).take k)=acc at hlen;unfold inF;rw[hlv];simp only[Option.getD_some];by_cases q1:lv[k]'(by omega)=true
   ·rw[if_pos q1]
    by_cases q2:Zm.Kind x=1
    ·rw[if_pos q2]
     by_cases q3:Zm.From x∈m
     ·rw[if_pos (decide_eq_true q3),Bq]
      by_cases q4:Zm.To x∈m
      ·rw[if_pos (decide_eq_true q4),if_pos ⟨q1,q2,q3,q4⟩,Zh (by simp only[List.length_cons,List.length_nil];omega)]
      ·rw[if_neg (by rw[decide_eq_true_eq];exact q4),if_neg (λz=>q4 z.2.2.2),List.append_nil]
     ·rw[if_neg (by rw[decide_eq_true_eq];exact q3),Bq,if_neg (by decide),if_neg (λz=>q3 z.2.2.1),List.append_nil]
    ·rw[if_neg q2,Bq,if_neg (by decide),if_neg (λz=>q2 z.2.1),List.append_nil]
   ·rw[if_neg q1,if_neg (λz=>q1 z.1),List.append_nil])
  (by simp only[Yt,el,Int.lt_irrefl,if_false,List.nil_append])
theorem Zrf {L:List Zm} {lv:List Bool} {m:List Int}:∀ n,n<=L.length->Qe (ZoQ lv m) 0 (L.take n) (-1)=((cat (inF lv m) 0 (L.take n)).getLast?).getD (-1)
 | 0,_=>by rw[List.take_zero];rfl
 | n+1,hn=>by
  have hnl:n<L.length:=by omega
  have hx:L[n]?=some (L[n]'hnl):=List.getElem?_eq_getElem hnl;generalize L[n]'hnl=x at hx;rw[ZcN hx,YP hx,ZlN,Zrf n (by omega)];have hlt:(L.take n).length=n:=by rw[List.length_take];omega
  show ZoQ lv m n x _=((cat (inF lv m) 0 (L.take n)++(inF lv m (0+(L.take n).length) x++[])).getLast?).getD (-1);rw[hlt,Nat.zero_add,List.append_nil];unfold ZoQ inF;split
  ·rw[List.getLast?_append]
   first | done | rfl
  ·rw[List.append_nil]
def ZDv (N:Nat) (L:List Zm) (lv:List Bool) (u:Int) (r:List Bool):Prop:=r.length=N/\∀ (a:Nat) (c:Bool),r[a]?=some c->(c=true<->RR L lv u (a:Int))
theorem ZpX {b:Zd} (h:Xy b) {v:ZF} (hv:VOk b v) (br:List Int):ZbO (ZdH (v,XY b br,())) (Zb8 (Vp b) (Zl b) (XY b br) (Vp b:Int)):=by
 have h6:=Y7 h;have hn:=Zhe h;have en:=nN b;have hll:(XY b br).length=(Zl b).length:=QA _ _;have hIn:=Zi9 h;generalize hN:Vp b=N at *;generalize hlv:XY b br=lv at *;unfold ZdH;rw[show Xc (ZI.view ((v,lv,()):ZI))=some (N:Int) from by rw[<-hN];exact Zuw h hv,Bq];refine ZbO.loop (λs=>(0<=s.2.1/\s.2.1<=(N:Int))/\(s.1.length:Int)=s.2.1/\∀ (i:Nat) (r:List Bool),s.1[i]?=some r->ZDv N (Zl b) lv (i:Int) r) (λs=>((N:Int)-s.2.1).toNat) ⟨⟨Int.le_refl _,by dsimp only;omega⟩,rfl,λi r hr=>by simp at hr⟩ ?_;rintro ⟨R,k,⟨⟩⟩ ⟨⟨k0,k1⟩,k2,k3⟩;dsimp only at k0 k1 k2 k3;show ZbO (ZbT ((v,lv,()):ZI) (N:Int) R k) _;unfold ZbT;have ek:Wq (k+1)=k+1:=YT (by omega) (by omega);refine ZbO.ite (λhk=>?_) (λhk=>?_)
 ·obtain ⟨r,e,hr1,hr2⟩:=Zy6 (g:=((v,lv,()):ZI)) (nodes:=[k]) (N:=N) (by show _=2*((ZF.ZC v).length:Int);rw[hv.ZC];omega) (by omega) (by show InN _ (ZF.links v);rw[hv.links];exact hIn) (by show (ZF.links v).length<=6000;rw[hv.links];exact h6) (by show lv.length=(ZF.links v).length;rw[hv.links];exact hll) (λa ha=>by rw[List.mem_singleton.1 ha];omega) (by simp)
  have hr3:ZDv N (Zl b) lv k r:=⟨hr1,λa c hc=>by
   have:=hr2 a c hc;rw[show ZF.links (ZI.view ((v,lv,()):ZI))=Zl b from hv.links] at this;rw[this];have e2:(λa=>a∈[k])=(λa:Int=>a=k):=funext λa=>propext List.mem_singleton;rw[e2]⟩
  rw[e,Bq,ek];refine .guard (by simp only[List.length_cons,List.length_nil];omega) (.ret ⟨⟨⟨by dsimp only;omega,by dsimp only;omega⟩,by dsimp only;rw[List.length_append];simp only[List.length_cons,List.length_nil];omega,λi r' hr'=>?_⟩,by dsimp only;omega⟩);dsimp only at hr';by_cases hi:i<R.length
  ·rw[List.getElem?_append_left hi] at hr'
   exact k3 i r' hr'
  ·rw[List.getElem?_append_right (by omega)] at hr'
   have hi2:i-R.length=0:=by
    have:=(List.getElem?_eq_some_iff.1 hr').1;simp only[List.length_cons,List.length_nil] at this;omega
   rw[hi2] at hr';injection hr' with hr'
   rw[<-hr',show (i:Int)=k by omega];exact hr3
 refine .guard (by omega) (.guard (Int.le_refl _) (.guard (by omega) (.guard (by omega) ?_)));have hRN:R.length=N:=by omega
 have row:∀ u:Int,0<=u->u<(N:Int)->∃ r,atI R u=some r/\R[u.toNat]?=some r/\ZDv N (Zl b) lv u r:=λu u0 u1=>by
  have hg:R[u.toNat]?=some (R[u.toNat]'(by omega)):=List.getElem?_eq_getElem _;refine ⟨_,QF u0 hg,hg,?_⟩;have:=k3 u.toNat _ hg;rw[show ((u.toNat:Nat):Int)=u by omega] at this;exact this
 refine ZbO.loop (λs=>(0<=s.2.1/\s.2.1<=(N:Int)/\(s.1.length:Int)<=s.2.1)/\Zb8 N (Zl b) lv s.2.1 s.1/\s.2.2.1=R/\s.2.2.2.1.length=N/\ZpA (Zl b) lv s.2.1 s.2.2.2.1) (λs=>((N:Int)-s.2.1).toNat)
  ⟨⟨Int.le_refl _,by dsimp only;omega,by dsimp only[List.length_nil];omega⟩,(by show ∀ u:Int,0<=u->u<0->¬NT (Zl b) lv u;intro u h0 h1;omega),rfl,by simp,λa ha=>by grind⟩ ?_
 rintro ⟨out,u,l0,l1,⟨⟩⟩ ⟨⟨i0,i1,i2⟩,i3,i4,i5,i6⟩;dsimp only at i0 i1 i2 i3 i4 i5 i6;subst i4;show ZbO (ZbS ((v,lv,()):ZI) (N:Int) out u l0 l1) _;unfold ZbS;have eu:Wq (u+1)=u+1:=YT (by omega) (by omega);refine ZbO.ite (λhu=>?_) (λhu=>.ret (show Zb8 N (Zl b) lv (N:Int) out from by rw[show (N:Int)=u by omega];exact i3));refine .at i0 (by omega) λx hx hx2=>?_;refine ZbO.ite (λhxt=>?_) (λ_=>?_)
 ·rw[eu]
  refine .ret ⟨⟨⟨by dsimp only;omega,by dsimp only;omega,by dsimp only;omega⟩,i3.skip λe hnt=>?_,rfl,i5,i6.mono⟩,by dsimp only;omega⟩;rw[hxt] at hx2;obtain ⟨w,w1,w2,w3⟩:=i6 u.toNat hx2;rw[show ((u.toNat:Nat):Int)=u by omega] at w2 w3;subst e;exact i3 w w1.1 w1.2 (ZAA w2 w3 (by omega))
 obtain ⟨ru,ru1,ru2,ru3,ru4⟩:=row u i0 hu;refine ZbO.loop (λs=>(0<=s.2.1/\s.2.1<=(N:Int)/\(s.1.length:Int)<=s.2.1)/\Zdp (λc:Int=>c) s.1/\s.2.2.1=l0/\∀ c,c∈s.1<->((0<=c/\c<s.2.1)/\RR (Zl b) lv u c/\RR (Zl b) lv c u)) (λs=>((N:Int)-s.2.1).toNat)
  ⟨⟨Int.le_refl _,by dsimp only;omega,by dsimp only[List.length_nil];omega⟩,(by show Zdp (λc:Int=>c) [];exact List.Pairwise.nil),rfl,λc=>⟨λq=>(by cases q),λq=>by grind⟩⟩ ?_
 rintro ⟨m,i,l2,⟨⟩⟩ ⟨⟨j0,j1,j2⟩,j3,j4,j5⟩;dsimp only at j0 j1 j2 j3 j4 j5;subst j4;show ZbO (ZbR ((v,lv,()):ZI) (N:Int) out u l1 m i l2) _;unfold ZbR;have ei:Wq (i+1)=i+1:=YT (by omega) (by omega);have es:List.set l2 (Int.toNat u) ru=l2:=Zr1 ru2;refine ZbO.ite (λhi=>?_) (λhi=>?_)
 ·have hi3:((i.toNat:Nat):Int)=i:=by omega
  obtain ⟨ri,ri1,ri2,ri3,ri4⟩:=row i j0 hi;have es2:List.set l2 (Int.toNat i) ri=l2:=Zr1 ri2;have skip:(¬(RR (Zl b) lv u i/\RR (Zl b) lv i u))->∀ c,c∈m<->((0<=c/\c<i+1)/\RR (Zl b) lv u c/\RR (Zl b) lv c u):=λhno c=>by
   rw[j5 c];constructor
   ·rintro ⟨h1,h2⟩;exact ⟨⟨h1.1,by omega⟩,h2⟩
   ·rintro ⟨h1,h2⟩
    refine ⟨⟨h1.1,?_⟩,h2⟩;by_cases e:c=i
    ·subst e;exact absurd h2 hno
    ·omega
  rw[ru1,Bq,es,ei];refine .at j0 (by omega) λx hx hx2=>?_;have a0:=ru4 i.toNat x hx2;rw[hi3] at a0;refine ZbO.ite (λhxt=>?_) (λhxf=>?_)
  ·rw[ri1,Bq,Bq,es2]
   refine .at i0 (by omega) λy hy hy2=>?_;have a1:=ri4 u.toNat y hy2;rw[show ((u.toNat:Nat):Int)=u by omega] at a1;refine ZbO.ite (λhyt=>?_) (λhyf=>?_)
   ·have b0:=a0.1 hxt
    have b1:=a1.1 hyt;refine .guard (by simp only[List.length_cons,List.length_nil];omega) (.ret ⟨⟨⟨by dsimp only;omega,by dsimp only;omega,by dsimp only;rw[List.length_append];simp only[List.length_cons,List.length_nil];omega⟩,?_,rfl,λc=>?_⟩,by dsimp only;omega⟩)
    ·show Zdp (λc:Int=>c) (m++[i])
     refine List.pairwise_append.2 ⟨j3,List.pairwise_singleton ..,λa ha c hc=>?_⟩;rw[List.mem_singleton.1 hc];exact ((j5 a).1 ha).1.2
    ·dsimp only
     rw[List.mem_append,List.mem_singleton,j5 c];constructor
     ·rintro (⟨h1,h2⟩ | rfl)
      ·exact ⟨⟨h1.1,by omega⟩,h2⟩
      ·exact ⟨⟨j0,by omega⟩,b0,b1⟩
     ·rintro ⟨h1,h2⟩
      by_cases e:c=i
      ·exact .inr e
      ·exact .inl ⟨⟨h1.1,by omega⟩,h2⟩
   ·exact .ret ⟨⟨⟨by dsimp only;omega,by dsimp only;omega,by dsimp only;omega⟩,j3,rfl,skip λq=>hyf (a1.2 q.2)⟩,by dsimp only;omega⟩
  ·exact .ret ⟨⟨⟨by dsimp only;omega,by dsimp only;omega,by dsimp only;omega⟩,j3,rfl,skip λq=>hxf (a0.2 q.1)⟩,by dsimp only;omega⟩
 ·have hiN:i=(N:Int):=by omega
  have hS:Zzm N (Zl b) lv u m:=⟨λc=>by rw[j5 c,hiN],j3⟩;have hT:=hS.two hIn ⟨i0,hu⟩;have hml:(m.length:Int)<=(N:Int):=by omega
  have mark:∀ Q:((List Int×Int×List (List Bool)×Unit) ⊕ ((List (List Int)×Int×List (List Bool)×List Bool×Unit) ⊕ ((List (List Bool)×Int×Unit) ⊕ List (List Int))))->Prop,(∀ l3:List Bool,l3.length=N->ZpA (Zl b) lv (u+1) l3->Q (.inr (.inl (out++[m],u+1,l2,l3,()))))->ZbO (Zo (λs=>Vz out u m l2 s.1 s.2.1) ((0:Int),l1,())) Q:=λQ hQ=>by
   refine ZbO.loop (λs=>0<=s.1/\s.1<=(m.length:Int)/\s.2.1.length=N/\ZpA (Zl b) lv (u+1) s.2.1) (λs=>((m.length:Int)-s.1).toNat) ⟨Int.le_refl _,by dsimp only;omega,i5,i6.mono⟩ ?_;rintro ⟨j,l3,⟨⟩⟩ ⟨g0,g1,g2,g3⟩;dsimp only at g0 g1 g2 g3;show ZbO (Vz out u m l2 j l3) _;unfold Vz;have ej:Wq (j+1)=j+1:=YT (by omega) (by omega);refine ZbO.ite (λhj=>?_) (λhj=>?_)
   ·refine .at g0 hj λx hx hx2=>?_
    have hxm:=(j5 x).1 hx;refine .at hxm.1.1 (by omega) λy _ _=>?_;rw[ej];refine .ret ⟨⟨by dsimp only;omega,by dsimp only;omega,by dsimp only;rw[List.length_set];exact g2,λa ha=>?_⟩,by dsimp only;omega⟩;dsimp only at ha;rw[List.getElem?_set] at ha;split at ha
    ·rename_i e
     rw[show (a:Int)=x by have:=hxm.1.1;omega];exact ⟨u,⟨i0,by omega⟩,hxm.2.1,hxm.2.2⟩
    ·exact g3 a ha
   ·rw[eu]
    exact .guard (by simp only[List.length_cons,List.length_nil];omega) (.ret (show Q _ from hQ l3 g2 g3))
  refine ZbO.ite (λh1=>?_) (λh1=>?_)
  ·rw[Zvr h hv hll u,Bq]
   refine ZbO.ite (λq=>?_) (λq=>?_)
   ·exact mark _ λl3 q1 q2=>⟨⟨⟨by dsimp only;omega,by dsimp only;omega,by dsimp only;rw[List.length_append];simp only[List.length_cons,List.length_nil];omega⟩,i3.add i0 (hT.2 (.inr ((Xx _).1 q))) hS,rfl,q1,q2⟩,by dsimp only;omega⟩
   ·rw[eu]
    refine .ret ⟨⟨⟨by dsimp only;omega,by dsimp only;omega,by dsimp only;omega⟩,i3.skip λ_ hnt=>?_,rfl,i5,i6.mono⟩,by dsimp only;omega⟩;rcases hT.1 hnt with z | z
    ·omega
    ·exact q (ZR z)
  ·exact mark _ λl3 q1 q2=>⟨⟨⟨by dsimp only;omega,by dsimp only;omega,by dsimp only;rw[List.length_append];simp only[List.length_cons,List.length_nil];omega⟩,i3.add i0 (hT.2 (.inl (by omega))) hS,rfl,q1,q2⟩,by dsimp only;omega⟩
theorem ZrL {n k:Nat} {br:List Int} (hk:k<n):(ZaW n br)[k]?=some (!decide ((k:Int)∈br)):=by
 unfold ZaW;rw[List.getElem?_map,List.getElem?_range hk];rfl
theorem Znz {k:Nat} {x:Bool} {y:Int}:y∈Zny k x<->x=false/\y=(k:Int):=by
 unfold Zny;cases x<;>simp
theorem Zut {lv:List Bool} {x:Int}:x∈dead lv<->∃ k:Nat,lv[k]?=some false/\x=(k:Int):=by
 unfold dead;rw[Qj];constructor
 ·rintro ⟨k,y,h1,h2⟩
  obtain ⟨rfl,rfl⟩:=Znz.1 h2;exact ⟨k,h1,by omega⟩
 ·rintro ⟨k,h1,rfl⟩
  exact ⟨k,false,h1,Znz.2 ⟨rfl,by omega⟩⟩
theorem Zt0:∀ (l:List Bool) (m:Nat),Zdp (λc:Int=>c) (cat Zny m l)
 | [],_=>List.Pairwise.nil
 | x::l,m=>by
  show List.Pairwise _ (Zny m x++cat Zny (m+1) l);refine List.pairwise_append.2 ⟨?_,Zt0 l (m+1),λa ha c hc=>?_⟩
  ·unfold Zny
   cases x<;>simp
  ·obtain ⟨_,rfl⟩:=Znz.1 ha
   obtain ⟨k,y,_,h2⟩:=Qj.1 hc;obtain ⟨_,rfl⟩:=Znz.1 h2;show (m:Int)<((m+1+k:Nat):Int);omega
theorem ZGc {l:List Int} (h:Zdp (λc:Int=>c) l):Inc l:=λk x y hx hy=>by
 obtain ⟨h1,e1⟩:=List.getElem?_eq_some_iff.1 hx;obtain ⟨h2,e2⟩:=List.getElem?_eq_some_iff.1 hy;have:=List.pairwise_iff_getElem.1 h k (k+1) h1 h2 (by omega);rw[e1,e2] at this;exact this
theorem ZBU (n:Nat) (br:List Int):ZpQ (n:Int) (dead (ZaW n br)):=⟨λx hx=>by
 obtain ⟨k,hk,rfl⟩:=Zut.1 hx;have:=(List.getElem?_eq_some_iff.1 hk).1;rw[QA] at this;omega,ZGc (Zt0 _ 0)⟩
theorem ZDS (n:Nat) (br:List Int):ZaW n (dead (ZaW n br))=ZaW n br:=by
 apply List.ext_getElem?;intro k;by_cases hk:k<n
 ·rw[ZrL hk,ZrL hk]
  congr 2;rw[decide_eq_decide,Zut];constructor
  ·rintro ⟨j,hj,e⟩
   have:j=k:=by omega
   subst this;rw[ZrL hk] at hj;injection hj with hj
   simpa using hj
  ·intro h
   exact ⟨k,by rw[ZrL hk];simp[h],rfl⟩
 ·rw[List.getElem?_eq_none (by rw[QA];omega),List.getElem?_eq_none (by rw[QA];omega)]
theorem ZBT (n:Nat) (br:List Int):(dead (ZaW n br)).length<=n:=by
 have:=V4 (f:=Zny) (c:=1) (l:=ZaW n br) (m:=0) (λk x _=>Zvc k x);rw[QA] at this;unfold dead;omega
theorem ZEE {l:List Int} (h:l.Nodup):Zdp (λc:Int=>c) (srt l):=by
 have h1:(srt l).Pairwise (λa c=>a<=c):=by
  have:=List.pairwise_mergeSort (le:=λx y:Int=>decide (x<=y)) (λa c d h1 h2=>by simp only[decide_eq_true_eq] at *;omega) (λa c=>by simp only[Bool.or_eq_true,decide_eq_true_eq];omega) l;exact this.imp λh=>by simpa using h
 have h2:(srt l).Pairwise (λa c=>a≠c):=((List.mergeSort_perm l _).nodup_iff.2 h);exact (h1.and h2).imp λ{a c} ⟨h3,h4⟩=>(by
  have:a<c:=by omega
  exact this)
theorem ZEf {b:Zd} (h:Xy b) {br:List Int} (hN:∃ v,NT (Zl b) (XY b br) v):∃ m,Zhv (Vp b) (Zl b) (XY b br) m:=by
 have h6:=Y7 h;have hn:=Zhe h;obtain ⟨r,_,hF⟩:=Zm6 (lv:=XY b br) (by omega) (Zi9 h) h6 (QA _ _);cases r with
 | nil =>
  obtain ⟨v,hv⟩:=hN;have hin:=hv.inn (Zi9 h);exact absurd hv (hF v hin.1 hin.2)
 | cons m t=>exact ⟨m,hF⟩
theorem Znr {b:Zd} (h:Xy b) {n:Nat} {br:List Int} (hN:∃ v,NT (Zl b) (XY b br) v):∃ k:Nat,Zu8 b (n+1) br=Zu8 b n (br++[(k:Int)])/\k<(Zl b).length/\(XY b br)[k]?=some true/\ct (XY b (br++[(k:Int)]))+1=ct (XY b br):=by
 obtain ⟨m,hm⟩:=ZEf h hN;obtain ⟨k,k1,k2,k3,_,k5⟩:=Zuv h hm;refine ⟨k,?_,k2,k3,k5⟩;simp only[Zu8,ZR hN,Zt5 hm,k1]
theorem ZqN {b:Zd} {n:Nat} {br:List Int} (hN:¬∃ v,NT (Zl b) (XY b br) v):Zu8 b n br=br:=by
 cases n with
 | zero=>rfl
 | succ n=>simp only[Zu8,ZP hN]
theorem ZzB {b:Zd} (h:Xy b):∀ (n:Nat) (br:List Int),br.Nodup->(∀ x∈br,0<=x/\x<((Zl b).length:Int))->(Zu8 b n br).Nodup/\∀ x∈Zu8 b n br,0<=x/\x<((Zl b).length:Int)
 | 0,br,h1,h2=>⟨h1,h2⟩
 | n+1,br,h1,h2=>by
  by_cases hN:∃ v,NT (Zl b) (XY b br) v
  ·obtain ⟨k,e,k2,k3,_⟩:=Znr h (n:=n) hN
   rw[e];have hk:(k:Int) ∉ br:=λq=>by
    rw[ZrL k2] at k3;injection k3 with k3
    simp[q] at k3
   refine ZzB h n _ ?_ λx hx=>?_
   ·rw[List.nodup_append]
    exact ⟨h1,by simp,λa ha c hc=>by
     rw[List.mem_singleton.1 hc];exact λe=>hk (e▸ha)⟩
   ·rcases List.mem_append.1 hx with hx | hx
    ·exact h2 x hx
    ·rw[List.mem_singleton.1 hx]
     omega
  ·rw[ZqN hN]
   exact ⟨h1,h2⟩
theorem Zxo {b:Zd} (h:Xy b):∀ (n:Nat) (br:List Int),ct (XY b br)<=n->¬∃ v,NT (Zl b) (XY b (Zu8 b n br)) v
 | 0,br,hc=>λhN=>by
  obtain ⟨k,_,_,_,k5⟩:=Znr h (n:=0) hN;have k5:ct (XY b (br++[(k:Int)]))+1=ct (XY b br):=k5;omega
 | n+1,br,hc=>by
  by_cases hN:∃ v,NT (Zl b) (XY b br) v
  ·obtain ⟨k,e,_,_,k5⟩:=Znr h (n:=n) hN
   rw[e];exact Zxo h n _ (by omega)
  ·rw[ZqN hN]
   exact hN
theorem ZF7 (b:Zd) (br:List Int):ct (XY b br)<=(Zl b).length:=by
 have:=ZF6 (XY b br)
 rwa [show (XY b br).length=(Zl b).length from QA _ _] at this
theorem ZCQ {b:Zd} (h:Xy b):srt (ZmB b)=dead (XY b (ZmB b)):=by
 obtain ⟨h1,h2⟩:=ZzB h (Zl b).length [] List.nodup_nil (λx hx=>by cases hx);have h1:(ZmB b).Nodup:=h1;have h2:∀ x∈ZmB b,0<=x/\x<((Zl b).length:Int):=h2;refine key_eq (ZEE h1) (Zt0 _ 0) λx=>?_;rw[ZEj];show _<->x∈dead (XY b (ZmB b));rw[Zut];constructor
 ·intro hx
  have:=h2 x hx;refine ⟨x.toNat,?_,by omega⟩;rw[ZrL (by omega),show ((x.toNat:Nat):Int)=x by omega];simp[hx]
 ·rintro ⟨k,hk,rfl⟩
  have hkl:=(List.getElem?_eq_some_iff.1 hk).1;rw[QA] at hkl;rw[ZrL hkl] at hk;injection hk with hk
  simpa using hk
noncomputable def Zwg (b:Zd):List Int:=dead (XY b (ZmB b))
theorem ZBJ {b:Zd} (h:Xy b):(ZaX b (Zwg b)).2=true:=by
 refine Ztj h λv hv=>?_;unfold Zwg at hv;rw[show XY b (dead (XY b (ZmB b)))=XY b (ZmB b) from ZDS _ _] at hv;exact Zxo h _ [] (ZF7 b []) ⟨v,hv⟩
theorem Ztl {b:Zd} (h:Xy b) {v:ZF} (hv:VOk b v) (br:List Int):Zb0 (v,XY b br,())=some (!(ZaX b br).2):=by
 unfold Zb0;rw[ZqA h hv br];rfl
theorem ZED {l:List Int} (h:l.length<=1048576):ZEC l=some (srt l):=by
 unfold ZEC;rw[if_pos (by omega)]
theorem Zsy {b:Zd} (h:Xy b) {v:ZF} (hv:VOk b v):∀ (n:Nat) (br:List Int),ct (XY b br)<=n->br.length+n<=12000->Zo (λs=>Y6 v s.1 s.2.1) (br,XY b br,())=some (.inr (.inr (srt (Zu8 b n br)))):=by
 intro n;have h6:=Y7 h;have hn:=Zhe h;have stop:∀ (n:Nat) (br:List Int),br.length<=12000->(¬∃ u,NT (Zl b) (XY b br) u)->Zo (λs=>Y6 v s.1 s.2.1) (br,XY b br,())=some (.inr (.inr (srt (Zu8 b n br)))):=λn br hl hno=>by
  have hO:(ZaX b br).2=true:=Ztj h λu hu=>hno ⟨u,hu⟩;refine YI ?_;show Y6 v br (XY b br)=_;unfold Y6;rw[Ztl h hv,Bq,hO,if_neg (by decide),ZED (by omega),Bq,ZqN hno]
 induction n with
 | zero =>
  intro br hc hl;refine stop 0 br (by omega) λhN=>?_;obtain ⟨k,_,_,_,k5⟩:=Znr h (n:=0) hN;have k5:ct (XY b (br++[(k:Int)]))+1=ct (XY b br):=k5;omega
 | succ n ih =>
  intro br hc hl;by_cases hN:∃ u,NT (Zl b) (XY b br) u;rotate_left
  ·exact stop (n+1) br (by omega) hN
  have hO:(ZaX b br).2=false:=by
   cases e:(ZaX b br).2 with
   | false=>rfl
   | true =>
    obtain ⟨u,hu⟩:=hN;exact absurd hu (ZyY h e u)
  obtain ⟨r,e1,hF⟩:=ZpX h hv br;cases r with
  | nil =>
   obtain ⟨u,hu⟩:=hN;have hin:=hu.inn (Zi9 h);exact absurd hu (hF u hin.1 hin.2)
  | cons m t =>
   have hm:Zhv (Vp b) (Zl b) (XY b br) m:=hF;obtain ⟨k,k1,k2,k3,k4,k5⟩:=Zuv h hm;have hml:m.length<=1048576:=by
    obtain ⟨w,w1,w2,_,w4⟩:=id hm;have:=(w4.scc (Zi9 h) w1 w2).len;omega
   have hin:=Zrf (L:=Zl b) (lv:=XY b br) (m:=m) (Zl b).length (Nat.le_refl _);rw[List.take_length] at hin;have hin2:((cat (inF (XY b br) m) 0 (Zl b)).getLast?).getD (-1)=(k:Int):=hin.symm.trans k1;have hcl:=V4 (f:=inF (XY b br) m) (c:=1) (l:=Zl b) (m:=0) (λk x _=>ZAf _ m k x);have e2:=Zsz h hv (lv:=XY b br) (QA _ _) m hml;generalize cat (inF (XY b br) m) 0 (Zl b)=c at hin2 hcl e2;have hg:c[c.length-1]?=some (k:Int):=by
    rw[<-List.getLast?_eq_getElem?];cases e:c.getLast? with
    | none =>
     rw[e] at hin2;have:(-1:Int)=(k:Int):=hin2;omega
    | some y =>
     rw[e] at hin2;have:y=(k:Int):=hin2;rw[this]
   have hc1:=(List.getElem?_eq_some_iff.1 hg).1;have e3:atI c (Wq ((c.length:Int)-1))=some (k:Int):=by
    rw[YT (by omega) (by omega)];exact QF (by omega) (by rw[show ((c.length:Int)-1).toNat=c.length-1 by omega];exact hg)
   have hb:Zu8 b (n+1) br=Zu8 b n (br++[(k:Int)]):=by
    simp only[Zu8,ZR hN,Zt5 hm,k1]
   rw[hb];refine (Y1 (v':=(br++[(k:Int)],XY b (br++[(k:Int)]),())) ?_).trans (ih (br++[(k:Int)]) (by omega) (by rw[List.length_append];simp only[List.length_cons,List.length_nil];omega));show Y6 v br (XY b br)=_;unfold Y6;rw[Ztl h hv,Bq,hO,if_pos (by decide),e1,Bq,show atI (m::t) (0:Int)=some m from rfl,Bq,e2,Bq,e3,Bq,Zp,k3,Bq,Zh (by simp only[List.length_cons,List.length_nil];omega),Int.toNat_natCast,k4]
def upTo (n i:Nat):List Bool:=(List.range n).map λk=>decide (k<i)
theorem ZCT (n i:Nat):(upTo n i).length=n:=by simp[upTo]
theorem ZCU {n i:Nat} (hi:i<n):List.set (upTo n i) i true=upTo n (i+1):=by
 apply List.ext_getElem
 ·simp[upTo]
 ·intro j h1 h2
  simp only[upTo,List.getElem_set,List.getElem_map,List.getElem_range];split
  ·symm
   rw[decide_eq_true_eq];omega
  ·rw[decide_eq_decide]
   omega
theorem ZBm (n:Nat):upTo n 0=List.replicate n false:=by
 apply List.ext_getElem
 ·simp[upTo]
 ·intro j h1 h2
  simp[upTo]
theorem ZBl (n:Nat):upTo n n=ZaW n []:=by
 unfold upTo ZaW;refine List.map_congr_left λk hk=>?_;have:=List.mem_range.1 hk;simp[this]
theorem Zuc {b:Zd} (h:Xy b) {v:ZF} (hv:VOk b v):Jc v=some (Zwg b):=by
 have h6:=Y7 h;have hrun:=Zsy h hv (Zl b).length [] (ZF7 b []) (by simp only[List.length_nil];omega);have key:ZbO (Zo (λs=>Vy v s.1 s.2.1) ((0:Int),List.replicate (Int.toNat ((Zl b).length:Int)) false,())) (λr=>r=srt (ZmB b)):=by
  refine ZbO.loop (λs=>0<=s.1/\s.1<=((Zl b).length:Int)/\s.2.1=upTo (Zl b).length s.1.toNat) (λs=>(((Zl b).length:Int)-s.1).toNat) ⟨Int.le_refl _,by dsimp only;omega,by dsimp only;rw[Int.toNat_natCast];exact (ZBm _).symm⟩ ?_;rintro ⟨i,l,⟨⟩⟩ ⟨i0,i1,i2⟩;dsimp only at i0 i1 i2;subst i2;show ZbO (Vy v i (upTo (Zl b).length i.toNat)) _;unfold Vy;rw[hv.links,List.length_replicate,Int.toNat_natCast];refine ZbO.ite (λhi=>?_) (λhi=>?_)
  ·refine .at i0 (by rw[ZCT];omega) λx _ _=>?_
   rw[YT (by omega) (by omega)];refine .ret ⟨⟨by dsimp only;omega,by dsimp only;omega,?_⟩,by dsimp only;omega⟩;dsimp only;rw[ZCU (by omega),show (i+1).toNat=i.toNat+1 by omega]
  ·have ei:i.toNat=(Zl b).length:=by omega
   rw[ei,ZBl];have e0:Qq v (XY b []) 0=some (.inr (.inr (srt (ZmB b)))):=by
    unfold Qq;rw[if_neg (by omega)];exact hrun
   have e1:Zo (λs=>Qq v (XY b []) s.1) ((0:Int),())=some (.inr (srt (ZmB b))):=YI e0;show ZbO (Zo (λs=>Qq v (XY b []) s.1) ((0:Int),())) _;rw[e1];exact .ret (show srt (ZmB b)=srt (ZmB b) from rfl)
 obtain ⟨r,e,rfl⟩:=key;unfold Jc;rw[hv.links,Zh (by omega),Zh (Int.le_refl _),Zh (by omega),Zh (by omega),e,ZCQ h];rfl
theorem ZuK {b:Zd} (h:Xy b):Zfk b=some (Zwg b):=ZuJ h
section
variable {b:Zd} {c:Zt} {live:List Bool} {l:List Zj} {dirty:List Int} {t0:Zw} {n:Nat}
end
theorem ZDK (b:Zd) (c:Zt) (br:List Int) (l:List Zj) (hb:sm YA b) (hc:sm Yd c) (hbr:br.length<=1048576) (hl:l.length<=1048576) :
  (∃ code:Int,(code=1\/code=2\/code=7)/\JV b c br l none=some (none,[],code)/\ZgB b c br l=some ([],code)/\¬ZqG b c br l/\(Pre b c br l->code=7))\/
  (∃ v,ZqG b c br l/\VOk b v/\JV b c br l none=some (some (v,XY b br,()),(ZaX b br).1,0)/\ZgB b c br l=some ((ZaX b br).1,0)):=by
 unfold JV ZgB;rw[Zfa b hb,ZhD b hb,Bq,Bq];by_cases hB:Zmy b;rotate_left
 ·rw[if_neg (λq=>hB ((Xx _).1 q)),if_neg (λq=>hB ((Xx _).1 q))]
  exact .inl ⟨1,.inl rfl,rfl,rfl,λq=>hB q.blk.ok,λq=>absurd q.blk.ok hB⟩
 have h:Xy b:=⟨hB,hb⟩;rw[if_pos (ZR hB),if_pos (ZR hB),Zkl c hc,ZgI c,Bq,Bq];by_cases hC:Vw c;rotate_left
 ·rw[if_neg (λq=>hC ((Xx _).1 q)),if_neg (λq=>hC ((Xx _).1 q))]
  exact .inl ⟨1,.inl rfl,rfl,rfl,λq=>hC q.cor,λq=>absurd q.cor hC⟩
 obtain ⟨v,hv1,hv⟩:=ZBq h;rw[if_pos (ZR hC),if_pos (ZR hC),hv1,Bq,if_pos (by rfl),Ztq h hbr,Zrh h hv hbr,Bq,Bq];by_cases hR:ZpQ ((Zl b).length:Int) br;rotate_left
 ·rw[if_neg (λq=>hR ((Xx _).1 q)),Xe hR,if_neg (by decide)]
  exact .inl ⟨2,.inr (.inl rfl),rfl,rfl,λq=>hR q.ris,λq=>absurd q.ris hR⟩
 rw[if_pos (ZR hR),XI hR,if_pos rfl,Zig h v hv.ZC l hl,Zoo h l hl,Bq,Bq];by_cases hS:Zfu l (ZdD (2*((ZC (Zd.Design b)).length:Int)) l);rotate_left
 ·rw[if_neg (λq=>hS ((Xx _).1 q)),if_neg (λq=>hS ((Xx _).1 q))]
  exact .inl ⟨2,.inr (.inl rfl),rfl,rfl,λq=>hS q.src,λq=>absurd q.src hS⟩
 rw[if_pos (ZR hS),if_pos (ZR hS),ZoF h hv hbr hR,Bq,ZqA h hv br,ZFy h hbr hR,Bq,Bq];by_cases hO:(ZaX b br).2=true;rotate_left
 ·rw[if_neg hO,if_neg hO]
  exact .inl ⟨7,.inr (.inr rfl),rfl,rfl,λq=>hO q.ord,λ_=>rfl⟩
 rw[if_pos hO,if_pos hO];exact .inr ⟨v,⟨h,hC,hR,hS,hO⟩,hv,rfl,rfl⟩
section
variable {b:Zd} {c:Zt} {br:List Int} {l:List Zj} {v:ZF}
theorem hst (hA:ZqG b c br l) (hv:VOk b v) (t:Zw) (u:Int) (ht:ZlJ (Vp b) t):StB (ZiC b c (XY b br) l t u):=ZyX hA hv ht _ _
theorem set_self {α:Type} {l:List α} {k:Nat} {x:α} (h:l[k]?=some x):l.set k x=l:=by
 apply List.ext_getElem?;grind
theorem ZCz {t:Zw} {n k:Nat} (ht:ZlJ n t) (hk:k<n) (hz:Zgv t (k:Int)=(false,Zb7,Zb7)) {r:Bool×Zj} (hr:ZvS r=(false,Zb7,Zb7)):Znl t k r=t:=by
 obtain ⟨x,a,s,hx,ha,hs⟩:=Zw9 ht hk;unfold Zgv at hz;rw[hx,ha,hs] at hz;injection hz with h1 hz
 injection hz with h2 h3
 dsimp only[Option.getD_some] at h1 h2 h3;subst h1 h2 h3;unfold ZvS at hr;injection hr with g1 hr
 injection hr with g2 g3
 rw[Zp] at hx ha hs;obtain ⟨a,b,c,⟨⟩⟩:=t;unfold Znl;rw[g1,g2,g3];show (List.set a k false,List.set b k Zb7,List.set c k Zb7,())=(a,b,c,());rw[set_self hx,set_self ha,set_self hs]
theorem ZAx {t:Zw} {live:List Bool} {u:Int} (h:(newV b c live l t u).1=false):ZvS (newV b c live l t u)=(false,Zb7,Zb7):=by
 unfold newV at h ⊢;cases e:ZiC b c live l t u with
 | none=>rfl
 | some q=>rw[e] at h;cases h
theorem ZDB {r:Bool×Zj} (h:r.1=true):ZBA r = !tr (Za4 (Zj.Ye r.2)):=by
 unfold ZBA;rw[h,Bool.true_and]
theorem Zpl (hA:ZqG b c br l) (hv:VOk b v) (hl:l.length<=1048576) {ord:List Int} (hol:ord.length<=1000) {c0:List Bool} {c1 c2:List Zx} :
  ∀ (r out:List Int) (k:Nat) (t:Zw),ord.drop k=r->k<=ord.length->ZpP (XY b br) (Zl b) out r->(∀ u∈r,0<=u/\u<(Vp b:Int))->ZlJ (Vp b) t->(∀ u:Int,u ∉ out->Zgv t u=(false,Zb7,Zb7))->
   Zo (λu=>Yi ((v,XY b br,()):ZI) c l ord u.1 u.2.1 u.2.2.1 u.2.2.2.1 u.2.2.2.2.1 u.2.2.2.2.2.1 u.2.2.2.2.2.2.1) ((k:Int),c0,c1,c2,Zw.Reached t,Zw.Ye t,Zw.QU t,())=some ((ZqB b c (XY b br) l r t).2,(ZqB b c (XY b br) l r t).1)/\
   Zo (λu=>XR b c (Zl b) (XY b br) l ord u.1 u.2.1 u.2.2.1 u.2.2.2.1 u.2.2.2.2.1 u.2.2.2.2.2.1 u.2.2.2.2.2.2.1) ((k:Int),c0,c1,c2,Zw.Reached t,Zw.Ye t,Zw.QU t,())=some ((ZqB b c (XY b br) l r t).2,(ZqB b c (XY b br) l r t).1)
 | [],out,k,t,hr,hk,hI,hn,ht,hz=>by
  have hke:k=ord.length:=by
   have:=congrArg List.length hr;grind
  subst hke;constructor
  ·refine YI ?_
   show Yi ((v,XY b br,()):ZI) c l ord (ord.length:Int) c0 c1 c2 (Zw.Reached t) (Zw.Ye t) (Zw.QU t)=_;unfold Yi;rw[if_neg (Int.lt_irrefl _)];rfl
  ·refine YI ?_
   show XR b c (Zl b) (XY b br) l ord (ord.length:Int) c0 c1 c2 (Zw.Reached t) (Zw.Ye t) (Zw.QU t)=_;unfold XR;rw[if_neg (Int.lt_irrefl _)];rfl
 | node::r,out,k,t,hr,hk,hI,hn,ht,hz=>by
  have h:=hA.blk;have hn1:=Zhe h;have hll:(XY b br).length=(Zl b).length:=QA _ _;have hlen:Len l:=by unfold Len;omega
  have hkl:k<ord.length:=by
   grind
  have hnode:ord[k]?=some node:=by
   have:=congrArg (λz=>z[0]?) hr;grind
  have hr':ord.drop (k+1)=r:=by
   rw[<-List.tail_drop,hr];rfl
  have hin:=hn node List.mem_cons_self;obtain ⟨j,rfl⟩:∃ j:Nat,node=(j:Int):=⟨node.toNat,by omega⟩;have hj:j<Vp b:=by omega
  obtain ⟨x,a,s,hx,ha,hs⟩:=Zw9 ht hj;have e1:=Zvp h hv hA.cor hll ht hlen (ZGp hA.src) (j:Int);have e2:=Zv3 h hv hA.cor hll ht hlen (j:Int);rw[show ZDj (j:Int) (ZiC b c (XY b br) l t (j:Int))=newV b c (XY b br) l t (j:Int) from rfl] at e1 e2;have hput:=ZrP (hst hA hv) ht j (j:Int);have hzz:∀ u:Int,u ∉ out++[(j:Int)]->Zgv (Znl t j (newV b c (XY b br) l t (j:Int))) u=(false,Zb7,Zb7):=λu hu=>by
   rw[Zps (λz=>hu (List.mem_append.2 (.inr (by grind))))];grind
  have ih:=Zpl hA hv hl hol (c0:=c0) (c1:=c1) (c2:=c2) r (out++[(j:Int)]) (k+1) (Znl t j (newV b c (XY b br) l t (j:Int))) hr' hkl hI.2 (λu hu=>hn u (List.mem_cons_of_mem _ hu)) hput hzz;have hnn:=ZAx (b:=b) (c:=c) (l:=l) (t:=t) (live:=XY b br) (u:=(j:Int));have hself:(newV b c (XY b br) l t (j:Int)).1=false->Znl t j (newV b c (XY b br) l t (j:Int))=t:=λq=>ZCz ht hj (hz _ hI.1.2.1) (hnn q);unfold ZqB;rw[Int.toNat_natCast];generalize newV b c (XY b br) l t (j:Int)=rv at *;by_cases q1:rv.1=true
  ·rw[ZDB q1]
   by_cases q2:Za4 (Zj.Ye rv.2)
   ·rw[ZR q2]
    refine ⟨(Y1 (v':=(((k+1:Nat):Int),c0,c1,c2,Zw.Reached (Znl t j rv),Zw.Ye (Znl t j rv),Zw.QU (Znl t j rv),())) ?_).trans ih.1,(Y1 (v':=(((k+1:Nat):Int),c0,c1,c2,Zw.Reached (Znl t j rv),Zw.Ye (Znl t j rv),Zw.QU (Znl t j rv),())) ?_).trans ih.2⟩
    ·show Yi ((v,XY b br,()):ZI) c l ord (k:Int) c0 c1 c2 (Zw.Reached t) (Zw.Ye t) (Zw.QU t)=_
     unfold Yi;rw[if_pos (by omega),Zp,hnode,Bq];show (Qr _ c l t (j:Int)).bind _=_;rw[e1,Bq,if_pos q1,show Zau rv.2.2.1=some (tr (Za4 (Zj.Ye rv.2))) from Jo _,Bq,if_pos (ZR q2),hx,ha,hs,Bq,Bq,Bq,Xm (by omega),Int.toNat_natCast];rfl
    ·show XR b c (Zl b) (XY b br) l ord (k:Int) c0 c1 c2 (Zw.Reached t) (Zw.Ye t) (Zw.QU t)=_
     unfold XR;rw[if_pos (by omega),Zp,hnode,Bq];show (Zbb b c (Zl b) (XY b br) l t (j:Int)).bind _=_;rw[e2,Bq,if_pos q1,show ZcB rv.2.2.1=some (tr (Za4 (Zj.Ye rv.2))) from ZiW _,Bq,if_pos (ZR q2),hx,ha,hs,Bq,Bq,Bq,Xm (by omega),Int.toNat_natCast];unfold Znl;rw[q1]
   ·rw[ZP q2]
    refine ⟨YI ?_,YI ?_⟩
    ·show Yi ((v,XY b br,()):ZI) c l ord (k:Int) c0 c1 c2 (Zw.Reached t) (Zw.Ye t) (Zw.QU t)=_
     unfold Yi;rw[if_pos (by omega),Zp,hnode,Bq];show (Qr _ c l t (j:Int)).bind _=_;rw[e1,Bq,if_pos q1,show Zau rv.2.2.1=some (tr (Za4 (Zj.Ye rv.2))) from Jo _,Bq,if_neg (λz=>q2 ((Xx _).1 z))];rfl
    ·show XR b c (Zl b) (XY b br) l ord (k:Int) c0 c1 c2 (Zw.Reached t) (Zw.Ye t) (Zw.QU t)=_
     unfold XR;rw[if_pos (by omega),Zp,hnode,Bq];show (Zbb b c (Zl b) (XY b br) l t (j:Int)).bind _=_;rw[e2,Bq,if_pos q1,show ZcB rv.2.2.1=some (tr (Za4 (Zj.Ye rv.2))) from ZiW _,Bq,if_neg (λz=>q2 ((Xx _).1 z))];rfl
  ·have q1':rv.1=false:=by grind
   have hb:ZBA rv=false:=by
    unfold ZBA;grind
   rw[hb];refine ⟨(Y1 (v':=(((k+1:Nat):Int),c0,c1,c2,Zw.Reached (Znl t j rv),Zw.Ye (Znl t j rv),Zw.QU (Znl t j rv),())) ?_).trans ih.1,(Y1 (v':=(((k+1:Nat):Int),c0,c1,c2,Zw.Reached (Znl t j rv),Zw.Ye (Znl t j rv),Zw.QU (Znl t j rv),())) ?_).trans ih.2⟩
   ·show Yi ((v,XY b br,()):ZI) c l ord (k:Int) c0 c1 c2 (Zw.Reached t) (Zw.Ye t) (Zw.QU t)=_
    unfold Yi;rw[if_pos (by omega),Zp,hnode,Bq];show (Qr _ c l t (j:Int)).bind _=_;rw[e1,Bq,if_neg q1,hx,ha,hs,Bq,Bq,Bq,Xm (by omega),Int.toNat_natCast];rfl
   ·show XR b c (Zl b) (XY b br) l ord (k:Int) c0 c1 c2 (Zw.Reached t) (Zw.Ye t) (Zw.QU t)=_
    unfold XR;rw[if_pos (by omega),Zp,hnode,Bq];show (Zbb b c (Zl b) (XY b br) l t (j:Int)).bind _=_;rw[e2,Bq,if_neg q1,Xm (by omega),hself q1']
end
def ZyW (n:Nat):Zw:=(List.replicate n false,List.replicate n Zb7,List.replicate n Zb7,())
theorem Zob (n:Nat):ZlJ n (ZyW n):=⟨List.length_replicate,List.length_replicate,List.length_replicate,λs hs=>by
 rw[List.eq_of_mem_replicate hs];exact ZDm⟩
theorem Zx7 (n:Nat) (u:Int):Zgv (ZyW n) u=(false,Zb7,Zb7):=by
 have g:∀ {α:Type} (z:α),(atI (List.replicate n z) u).getD z=z:=λz=>by
  unfold atI;grind
 show (((atI (List.replicate n false) u).getD false,(atI (List.replicate n Zb7) u).getD Zb7,(atI (List.replicate n Zb7) u).getD Zb7):Row)=_;rw[g,g]
structure Is (b:Zd) (c:Zt) (br:List Int) (l:List Zj) (t:Zw):Prop where
 asked:ZqG b c br l
 tb:ZlJ (Vp b) t
 right:Right b c (XY b br) l t
 good:∀ u:Int,0<=u->u<(Vp b:Int)->Zyv (Zgv t u)
theorem Is.unique {b:Zd} {c:Zt} {br:List Int} {l:List Zj} {t t':Zw} (h:Is b c br l t) (h':Is b c br l t'):t=t' :=
 ZvQ (ZAI h.asked.ord) h.tb h'.tb h.right h'.right
theorem ZEm (b:Zd) (c:Zt) (br:List Int) (l:List Zj) (hb:sm YA b) (hc:sm Yd c) (hbr:br.length<=1048576) (hl:l.length<=1048576) :
  ∃ r:Zw×Int,ZaE b c br l=some r/\ZaK b c br l=some r/\
   ((r.2=0/\Is b c br l r.1)\/(r.1=noT/\(∀ t,¬Is b c br l t)/\(r.2=3/\ZqG b c br l\/(r.2=1\/r.2=2\/r.2=7)/\¬ZqG b c br l/\(Pre b c br l->r.2=7)))):=by
 unfold ZaE ZaK;rcases ZDK b c br l hb hc hbr hl with ⟨code,hne,e1,e2,e3,e4⟩ | ⟨v,hA,hv,e1,e2⟩
 ·rw[e1,e2,Bq,Bq,if_neg (by grind),if_neg (by grind)]
  exact ⟨_,rfl,rfl,.inr ⟨rfl,λt z=>e3 z.asked,.inr ⟨hne,e3,e4⟩⟩⟩
 ·have h:=hA.blk
  have hn:=Zhe h;have hO:=Zyb b br;have hok:=ZAI hA.ord;have hpl:=XE h.ok.1.few;have en:=nN b;rw[e1,e2,Bq,if_pos rfl,Bq,Bq,if_pos rfl];rw[ZdP h,Bq,ZhU _ _ (Y7 h) hbr,Bq];have l1:XT ((v,XY b br,()):ZI) c l (ZaX b br).1=some ((ZqB b c (XY b br) l (ZaX b br).1 (ZyW (Vp b))).2,(ZqB b c (XY b br) l (ZaX b br).1 (ZyW (Vp b))).1):=by
   unfold XT ZdY;rw[show Xc (ZI.view ((v,XY b br,()):ZI))=some (Vp b:Int) from Zuw h hv,Bq];rw[Zh (by omega),Zh (by omega),Zh (by omega),Zh (by omega),Zh (by omega),Bq,Int.toNat_natCast];exact (Zpl hA hv hl (ord:=(ZaX b br).1) (by omega) (ZaX b br).1 [] 0 (ZyW (Vp b)) rfl (Nat.zero_le _) hok.ord hok.inn (Zob _) (λu _=>Zx7 _ u)).1
  have l2:ZhX b c (Zl b) (XY b br) l (ZaX b br).1=some ((ZqB b c (XY b br) l (ZaX b br).1 (ZyW (Vp b))).2,(ZqB b c (XY b br) l (ZaX b br).1 (ZyW (Vp b))).1):=by
   unfold ZhX Zj0;rw[Zlk h,Bq];rw[Zh (by omega),Zh (by omega),Zh (by omega),Zh (by omega),Zh (by omega),Bq,Int.toNat_natCast];exact (Zpl hA hv hl (ord:=(ZaX b br).1) (by omega) (ZaX b br).1 [] 0 (ZyW (Vp b)) rfl (Nat.zero_le _) hok.ord hok.inn (Zob _) (λu _=>Zx7 _ u)).2
  rw[show XT ((v,XY b br,()):ZI) c l (some ((v,XY b br,()):ZI),(ZaX b br).1,(0:Int)).snd.fst=_ from l1];rw[show ZhX b c (Zl b) (ZaW (Zl b).length br) l ((ZaX b br).1,(0:Int)).fst=_ from l2];rw[Bq];have k1:=ZA0 (b:=b) (c:=c) (live:=XY b br) (l:=l) (hst hA hv) (ZaX b br).1 [] (ZyW (Vp b)) hok.ord (λu hu=>(hok.inn u hu).2) (Zob _) (λu hu=>by cases hu) (λu hu=>by cases hu);have k2:=λT=>ZvT (b:=b) (c:=c) (live:=XY b br) (l:=l) (T:=T) (hst hA hv) (ZaX b br).1 [] (ZyW (Vp b)) hok.ord (λu hu=>(hok.inn u hu).2) (Zob _) (λu hu=>by cases hu);have k3:(ZqB b c (XY b br) l (ZaX b br).1 (ZyW (Vp b))).1=false->(ZqB b c (XY b br) l (ZaX b br).1 (ZyW (Vp b))).2=noT:=runP_bad _ _;generalize ZqB b c (XY b br) l (ZaX b br).1 (ZyW (Vp b))=R at *;cases hR:R.1 with
  | true =>
   obtain ⟨g1,g2⟩:=k1 hR;exact ⟨_,rfl,rfl,.inl ⟨rfl,hA,g1,λu h0 h1=>(g2 u (hok.all u h0 h1)).1,λu h0 h1=>(g2 u (hok.all u h0 h1)).2⟩⟩
  | false =>
   refine ⟨_,rfl,rfl,.inr ⟨rfl,λT hT=>?_,.inl ⟨rfl,hA⟩⟩⟩;have:=k2 T λu hu=>⟨hT.right u (hok.inn u hu).1 (hok.inn u hu).2,hT.good u (hok.inn u hu).1 (hok.inn u hu).2⟩;grind
where
 runP_bad {b:Zd} {c:Zt} {live:List Bool} {l:List Zj}:∀ (r:List Int) (t:Zw),(ZqB b c live l r t).1=false->(ZqB b c live l r t).2=noT
  | [],t,h=>by cases h
  | v::r,t,h=>by
   unfold ZqB at h ⊢;cases e:ZBA (newV b c live l t v) with
   | true=>rfl
   | false =>
    rw[e] at h;exact runP_bad r _ h
def Zi0 (l:List Zt):Prop:=l.length<=4/\(∀ c∈l,Vw c)/\Ji (l.map Zt.Name) l.length
theorem Zoq (l:List Zt) (h:sm (.sl Yd) l):Zfp l=some (tr (Zi0 l)):=by
 have hs:=ZH h;unfold Zfp;rw[Vt (Y0 h) (λk c=>Vw c/\∀ (j:Nat) (q:Zt),j<k->l[j]?=some q->Zt.Name q≠Zt.Name c) (bad:=false) (good:=tr (l.length<=4))
  (λk c hx hk _=>by
   simp only[ZcI,show (k:Int)<(l.length:Int) from by omega,if_true,Zp,hx,Bq,Zkl c (ZiF h hx)];by_cases hC:Vw c
   ·rw[if_pos (ZR hC),ZmN (f:=Zt.Name) (l:=l) (x:=c) (k:=k) (by omega) (by omega) (bad:=.inr false) (good:=.inl (Wq ((k:Int)+1),()))
     (λj y hj hy=>by
      simp only[ZcH,show (j:Int)<(k:Int) from by omega,if_true,Zp,hy,Bq];split<;>rfl)
     (by simp only[ZcH,Int.lt_irrefl,if_false])]
    constructor
    ·intro hh;rw[XI hh.2]
    ·intro hh;rw[Xe (λq=>hh ⟨hC,q⟩)]
   ·rw[if_neg (by rw[ZP hC];simp)]
    exact ⟨λhh=>absurd hh.1 hC,λ_=>rfl⟩)
  (λ_=>by
   simp only[ZcI,Int.lt_irrefl,if_false];congr 2;exact (Zqr (by rw[decide_eq_true_eq];omega)).symm)]
 rw[Ze9];congr 1;refine Vk ?_;unfold Zi0;rw[ZrN,<-JK];constructor
 ·rintro ⟨q,q8⟩
  exact ⟨q8,λk x hx=>(q k x hx).1,λk x hx=>⟨(q k x hx).1.1,(q k x hx).2⟩⟩
 ·rintro ⟨q8,q1,q2⟩
  exact ⟨λk x hx=>⟨q1 k x hx,(q2 k x hx).2⟩,q8⟩
theorem ZlW (l:List Zt) (h:sm (.sl Yd) l) (h0:l.length≠0):ZcR l=some (tr (Zi0 l)):=by
 have hs:=ZH h;unfold ZcR;have hlen:(l.map Zt.Name).length=l.length:=by simp
 have:=ZjN (l:=l) (ρ:=Bool) (λk=>((l.map Zt.Name).take k,(k:Int),())) (λ_ c=>Vw c) (step:=λv=>QZ l v.1 v.2.1) (bad:=false) (good:=tr (l.length<=4/\Ji (l.map Zt.Name) l.length))
  (λk c hx hk _=>by
   have hn:(l.map Zt.Name)[k]?=some (Zt.Name c):=by simp[hx]
   simp only[QZ,show (k:Int)<(l.length:Int) from by omega,if_true,Zp,hx,Bq,ZgI c];rw[Zh (by simp only[List.length_take,List.length_singleton,List.length_map];omega),YP hn,Xm (by omega)];constructor
   ·intro hh;rw[if_pos (ZR hh)]
   ·intro hh;rw[if_neg (by rw[ZP hh];simp)])
  (λhA=>by
   have e0:(l.map Zt.Name).take l.length=l.map Zt.Name:=by rw[<-hlen,List.take_length]
   simp only[QZ,Int.lt_irrefl,if_false,e0,show Qi l=some (l.length:Int) from rfl,Bq,QE];by_cases h4:l.length<=4
   ·rw[if_pos (ZR (by omega)),V5 _ (by rw[hlen];omega),Bq,hlen]
    congr 2;exact Vk ⟨λq=>⟨h4,q⟩,λq=>q.2⟩
   ·rw[if_neg (λq=>h4 (by have:=(Xx _).1 q;omega)),ZP (λq=>h4 q.1)])
 refine (show Zo (λv=>QZ l v.1 v.2.1) (([]:List (List UInt8)),(0:Int),())=_ from this).trans ?_;rw[Ze9];congr 1;refine Vk ?_;rw[JK];exact ⟨λq=>⟨q.2.1,q.1,q.2.2⟩,λq=>⟨q.2.1,q.1,q.2.2⟩⟩
def Zwl (k v:Int):Prop:=(k=1/\v=0)\/(k=2/\1<=v/\v<=10)\/((k=3\/k=4)/\0<=v/\v<=1000000000)
def Zwk (n:Nat) (l:List Int):Prop:=l.length<=4/\ZiZ l 0 ((n:Int)-1)
def ZqH (n:Nat) (e:Zr):Prop:=Zwk n (Zr.From e)/\Zwk n (Zr.Through e)/\Zwk n (Zr.To e)/\Inc (Zr.From e)/\Inc (Zr.To e)/\Zwl (Zr.Kind e) (Zr.Value e)
theorem ZGC {e:Zr} (h:sm ZO e):sm (.sl (.int .i64)) (Zr.From e)/\sm (.sl (.int .i64)) (Zr.Through e)/\sm (.sl (.int .i64)) (Zr.To e):=by
 refine ⟨?_,?_,?_⟩;all_goals first | exact h.1 | exact h.2.1 | exact h.2.2.1 | exact h.2.2.2.1 | exact h.2.2.2.2.1
theorem Zrb (k v:Int):Zij k v=some (tr (Zwl k v)):=by
 unfold Zij Zwl;simp only[QE,Bq];by_cases k1:k=1
 ·rw[if_pos k1];exact Zcd (by rw[decide_eq_true_eq];omega)
 rw[if_neg k1];by_cases k2:k=2
 ·rw[if_pos k2];congr 1;exact Vk (by omega)
 rw[if_neg k2];by_cases k3:k=3
 ·rw[if_pos k3,if_pos k3];congr 1;exact Vk (by omega)
 rw[if_neg k3];by_cases k4:k=4
 ·rw[if_pos k4];congr 1;exact Vk (by omega)
 ·rw[if_neg k4,ZP (by omega)]
theorem Zi8 (v:ZF) (e:Zr) (h:sm ZO e) (hn:(ZF.ZC v).length<=1048576):VR v e=some (tr (ZqH (ZF.ZC v).length e)):=by
 obtain ⟨a1,a2,a3⟩:=ZGC h;have e1:Wq (((ZF.ZC v).length:Int)-1)=((ZF.ZC v).length:Int)-1:=YT (by omega) (by omega);unfold VR;rw[Vt (l:=[Zr.From e,Zr.Through e,Zr.To e]) (show List.length _<=_ by simp) (λ_ x=>Zwk (ZF.ZC v).length x) (bad:=false) (good:=tr (Zwl (Zr.Kind e) (Zr.Value e)/\Inc (Zr.From e)/\Inc (Zr.To e)))
  (λk x hx hk _=>by
   have hxs:x.length<=1048576:=by
    have:=List.mem_of_getElem? hx;simp only[List.mem_cons,List.not_mem_nil,or_false] at this;rcases this with rfl | rfl | rfl
    ·exact ZH a1
    ·exact ZH a2
    ·exact ZH a3
   simp only[JD,show (k:Int)<((List.length [Zr.From e,Zr.Through e,Zr.To e]:Nat):Int) from by omega,if_true,Zp,hx,Bq,show YX (ZF.ZC v)=some ((ZF.ZC v).length:Int) from rfl,e1,Zgh x _ _ hxs];unfold Zwk;by_cases h4:(4:Int)<(x.length:Int)
   ·rw[if_pos h4]
    exact ⟨λhh=>by omega,λ_=>rfl⟩
   ·rw[if_neg h4]
    constructor
    ·intro hh;rw[if_pos (ZR hh.2)]
    ·intro hh;rw[if_neg (λq=>hh ⟨by omega,(Xx _).1 q⟩)])
  (λ_=>by
   simp only[JD,Int.lt_irrefl,if_false,Zrb,Bq,ZaF _ (Y0 (t:=.int .i64) a1),ZaF _ (Y0 (t:=.int .i64) a3)];by_cases q1:Zwl (Zr.Kind e) (Zr.Value e)
   ·rw[if_pos (ZR q1)]
    by_cases q2:Inc (Zr.From e)
    ·rw[if_pos (ZR q2)]
     congr 2;exact Vk ⟨λq=>⟨q1,q2,q⟩,λq=>q.2.2⟩
    ·rw[if_neg (λq=>q2 ((Xx _).1 q)),ZP (λq=>q2 q.2.1)]
   ·rw[if_neg (λq=>q1 ((Xx _).1 q)),ZP (λq=>q1 q.1)]),Ze9]
 congr 1;refine Vk ?_;rw[JK];simp only[List.mem_cons,List.not_mem_nil,or_false,forall_eq_or_imp,forall_eq];unfold ZqH;exact ⟨λ⟨⟨q1,q2,q3⟩,q4,q5,q6⟩=>⟨q1,q2,q3,q5,q6,q4⟩,λ⟨q1,q2,q3,q5,q6,q4⟩=>⟨⟨q1,q2,q3⟩,q4,q5,q6⟩⟩
theorem ZGb {l:List Int}:Inc l<->Zfu l (λk x=>∀ y,0<k->l[k-1]?=some y->y<x):=by
 constructor
 ·intro h k x hx y hk hy
  exact h (k-1) y x hy (by rw[show k-1+1=k by omega];exact hx)
 ·intro h k x y hx hy
  exact h (k+1) y hy x (by omega) hx
theorem ZfO (b:Zd) (hf:Few (Zd.Design b)) (l:List Int) (srt:Bool) (h:sm (.sl (.int .i64)) l):ZbN b l srt=some (tr (Zwk (ZC (Zd.Design b)).length l/\(srt=true->Inc l))):=by
 have hs:=ZH h;have hpl:=XE hf;have e1:Wq (((ZC (Zd.Design b)).length:Int)-1)=((ZC (Zd.Design b)).length:Int)-1:=YT (by omega) (by omega);have hcnt:Zhn b=some ((ZC (Zd.Design b)).length:Int):=by unfold Zhn;rw[Xv _ hf];rfl
 unfold ZbN;rw[Vt (Y0 h) (λk x=>(0<=x/\x<=((ZC (Zd.Design b)).length:Int)-1)/\(srt=true->∀ y,0<k->l[k-1]?=some y->y<x)) (bad:=false) (good:=tr (l.length<=4))
  (λk x hx hk _=>by
   simp only[Zdo,show (k:Int)<(l.length:Int) from by omega,if_true,Zp,hx,Bq,hcnt,Q9,e1];by_cases hb:0<=x/\x<=((ZC (Zd.Design b)).length:Int)-1
   ·rw[if_pos (ZR hb)]
    cases srt
    ·simp only[Bool.false_eq_true,if_false]
     exact ⟨λ_=>trivial,λhh=>absurd ⟨hb,λq=>by cases q⟩ hh⟩
    ·simp only[if_true]
     by_cases h0:(0:Int)<(k:Int)
     ·obtain ⟨y,hy⟩:∃ y,l[k-1]?=some y:=⟨_,List.getElem?_eq_getElem (by omega)⟩
      rw[if_pos h0,Zi1 (by omega) (by omega),Zp,hy,Bq];constructor
      ·intro hh
       rw[if_neg];have:=hh.2 trivial y (by omega) rfl;omega
      ·intro hh
       rw[if_pos];apply Classical.byContradiction;intro hlt;refine hh ⟨hb,λ_ y' _ hy'=>?_⟩;injection hy' with hy'
       have:¬x<=y:=hlt;omega
     ·rw[if_neg h0]
      exact ⟨λ_=>rfl,λhh=>absurd ⟨hb,λ_ y hk0=>by omega⟩ hh⟩
   ·rw[if_neg (λq=>hb ((Xx _).1 q))]
    exact ⟨λhh=>absurd hh.1 hb,λ_=>rfl⟩)
  (λ_=>by
   simp only[Zdo,Int.lt_irrefl,if_false];congr 2;exact (Zqr (by rw[decide_eq_true_eq];omega)).symm),Ze9]
 congr 1;refine Vk ?_;unfold Zwk;rw[ZGb];constructor
 ·rintro ⟨q1,q2⟩
  exact ⟨⟨q2,JK.1 (λk x hx=>(q1 k x hx).1)⟩,λhs k x hx=>(q1 k x hx).2 hs⟩
 ·rintro ⟨⟨q2,q1⟩,q3⟩
  exact ⟨λk x hx=>⟨q1 x (List.mem_of_getElem? hx),λhs=>q3 hs k x hx⟩,q2⟩
theorem Zng (b:Zd) (h:Xy b) (e:Zr) (he:sm ZO e):ZdN b e=some (tr (ZqH (ZC (Zd.Design b)).length e)):=by
 obtain ⟨a1,a2,a3⟩:=ZGC he;have hf:=h.ok.1.few;unfold ZdN;rw[Zfa b h.sm,Bq,if_pos (ZR h.ok)];refine ZgH (YR (ZfO b hf _ _ a1) (λ_=>YR (ZfO b hf _ _ a2) (λ_=>YR (ZfO b hf _ _ a3) (λ_=>(?_:_=some (tr (Zwl (Zr.Kind e) (Zr.Value e)))))))) ?_
 ·unfold Zwl
  simp only[Q9,Bq];by_cases k1:Zr.Kind e=1
  ·rw[if_pos k1];exact Zcd (by rw[decide_eq_true_eq];omega)
  rw[if_neg k1];by_cases k2:Zr.Kind e=2
  ·rw[if_pos k2];congr 1;exact Vk (by omega)
  rw[if_neg k2];by_cases k3:Zr.Kind e=3
  ·rw[if_pos k3,if_pos k3];congr 1;exact Vk (by omega)
  rw[if_neg k3];by_cases k4:Zr.Kind e=4
  ·rw[if_pos k4];congr 1;exact Vk (by omega)
  ·rw[if_neg k4,ZP (by omega)]
 ·unfold ZqH
  constructor
  ·rintro ⟨⟨q1,q2⟩,⟨q3,_⟩,⟨q4,q5⟩,q6⟩;exact ⟨q1,q3,q4,q2 rfl,q5 rfl,q6⟩
  ·rintro ⟨q1,q3,q4,q2,q5,q6⟩;exact ⟨⟨q1,λ_=>q2⟩,⟨q3,λq=>by cases q⟩,⟨q4,λ_=>q5⟩,q6⟩
structure Wv where
 period:Int
 rise:Int
 fall:Int
def ZBu (c:Zc) (w:Wv):Wv :=
 let w1:Wv:=if 1<Zc.Divide c then ⟨Wq (Zc.Divide c*w.period),w.rise,Wq (w.rise+Wq (Wq ((Zc.Divide c).tdiv 2)*w.period))⟩ else w
 if Zc.Zgf c=true then ⟨w1.period,w1.fall,w1.rise⟩ else w1
def Zzk (l:List Zc):Nat->Int->Wv
 | 0,_=>⟨0,0,0⟩
 | n+1,k=>match l[k.toNat]? with
  | none=>⟨0,0,0⟩
  | some c=>if Zc.Source c<0 then ⟨Zc.Xl c,Zc.Qd c,Zc.QX c⟩ else ZBu c (Zzk l n (Zc.Source c))
def Zh1 (l:List Zc) (k:Int):Wv:=Zzk l (k.toNat+1) k
def Zyw (l:List Zc) (m:Int):Prop:=∀ (j:Nat) (c:Zc),(j:Int)<m->l[j]?=some c->Zc.Source c<(j:Int)
theorem Zpz (l:List Zc):∀ (n:Nat) (k:Int),0<=k->k<n->Zyw l (k+1)->Zzk l n k=Zh1 l k
 | 0,k,h0,h1,_=>by omega
 | n+1,k,h0,h1,hs=>by
  unfold Zh1;simp only[Zzk];cases hc:l[k.toNat]? with
  | none=>rfl
  | some c =>
   simp only;split
   ·rfl
   ·rename_i hsrc
    have hlt:=hs k.toNat c (by omega) hc;have hs':Zyw l (Zc.Source c+1):=λj c' hj hc'=>hs j c' (by omega) hc';have e1:=Zpz l n (Zc.Source c) (by omega) (by omega) hs';rw[e1];have:∀ m:Nat,Zc.Source c<m->m<n+1->Zzk l m (Zc.Source c)=Zh1 l (Zc.Source c):=λm hm hmn=>Zpz l m (Zc.Source c) (by omega) hm hs';by_cases hk:k.toNat<n+1/\Zc.Source c<(k.toNat:Int)
    ·rw[this k.toNat hk.2 hk.1]
    ·omega
 termination_by n=>n
theorem Zxd (l:List Zc) (k:Int) (h0:0<=k) (c:Zc) (hc:l[k.toNat]?=some c) (hs:Zyw l (k+1)) :
  Zh1 l k=if Zc.Source c<0 then ⟨Zc.Xl c,Zc.Qd c,Zc.QX c⟩ else ZBu c (Zh1 l (Zc.Source c)):=by
 unfold Zh1;rw[Zzk,hc];simp only;split
 ·rfl
 ·rename_i hsrc
  have hlt:=hs k.toNat c (by omega) hc;rw[Zpz l k.toNat (Zc.Source c) (by omega) hlt (λj c' hj hc'=>hs j c' (by omega) hc')];rfl
def wvI (w:Wv):ZdR:=(w.period,(w.rise,w.fall,()),())
def wvS (w:Wv):Y2:=(w.period,w.rise,w.fall,())
def ZvJ (l:List Zc) (k:Int):Prop:=0<=k/\k<l.length/\Zyw l (k+1)
theorem ZgN (l:List Zc):∀ (n:Nat) (k:Int),ZvJ l k->(∀ r,Zbk n l k=some r->r=wvI (Zh1 l k))/\(k<n->Zbk n l k=some (wvI (Zh1 l k)))
 | 0,k,hp=>⟨λr h=>by simp[Zbk] at h,λh=>by have:=hp.1;omega⟩
 | n+1,k,hp=>by
  obtain ⟨h0,h1,h2⟩:=hp;obtain ⟨c,hc,hc'⟩:=Zme h0 h1;have hw:=Zxd l k h0 c hc' h2;simp only[Zbk,ZbB,hc,Bq];split
  ·rename_i hs
   rw[if_pos hs] at hw;rw[hw];exact ⟨λr h=>by injection h with h;exact h.symm,λ_=>rfl⟩
  ·rename_i hs
   rw[if_neg hs] at hw;have hlt:=h2 k.toNat c (by omega) hc';have ih:=ZgN l n (Zc.Source c) ⟨by omega,by omega,λj d hj hd=>h2 j d (by omega) hd⟩;have fin:∀ o:Option ZdR,(∀ r,o=some r->r=wvI (Zh1 l (Zc.Source c)))->∀ F:ZdR->Option ZdR,F (wvI (Zh1 l (Zc.Source c)))=some (wvI (Zh1 l k))->(∀ r,o.bind F=some r->r=wvI (Zh1 l k))/\(o≠none->o.bind F=some (wvI (Zh1 l k))):=by
    intro o ho F hF;cases o with
    | none=>exact ⟨λr h=>(by cases h),λh=>absurd rfl h⟩
    | some x =>
     have:=ho x rfl;subst this;rw[Bq,hF];exact ⟨λr h=>by injection h with h;exact h.symm,λ_=>rfl⟩
   refine And.imp_right (λh2 hk=>h2 (by rw[ih.2 (by omega)];simp)) (fin _ ih.1 _ ?_);rw[hw];simp only[ZBu,wvI];split<;>split<;>simp[*]
theorem ZiR {l:List Zc} {k:Int} (hp:ZvJ l k):ZfA l k=some (wvI (Zh1 l k)) :=
 ZAT ⟨k.toNat+1,(ZgN l _ k hp).2 (by have:=hp.1;omega)⟩ (λn r h=>(ZgN l n k hp).1 r h)
theorem ZhY (l:List Zc):∀ (n:Nat) (k:Int),ZvJ l k->(∀ r,ZcG n l k=some r->r=wvS (Zh1 l k))/\(k<n->ZcG n l k=some (wvS (Zh1 l k)))
 | 0,k,hp=>⟨λr h=>by simp[ZcG] at h,λh=>by have:=hp.1;omega⟩
 | n+1,k,hp=>by
  obtain ⟨h0,h1,h2⟩:=hp;obtain ⟨c,hc,hc'⟩:=Zme h0 h1;have hw:=Zxd l k h0 c hc' h2;simp only[ZcG,ZcF,hc,Bq];split
  ·rename_i hs
   rw[if_pos hs] at hw;rw[hw];exact ⟨λr h=>by injection h with h;exact h.symm,λ_=>rfl⟩
  ·rename_i hs
   rw[if_neg hs] at hw;have hlt:=h2 k.toNat c (by omega) hc';have ih:=ZhY l n (Zc.Source c) ⟨by omega,by omega,λj d hj hd=>h2 j d (by omega) hd⟩;have fin:∀ o:Option Y2,(∀ r,o=some r->r=wvS (Zh1 l (Zc.Source c)))->∀ F:Y2->Option Y2,F (wvS (Zh1 l (Zc.Source c)))=some (wvS (Zh1 l k))->(∀ r,o.bind F=some r->r=wvS (Zh1 l k))/\(o≠none->o.bind F=some (wvS (Zh1 l k))):=by
    intro o ho F hF;cases o with
    | none=>exact ⟨λr h=>(by cases h),λh=>absurd rfl h⟩
    | some x =>
     have:=ho x rfl;subst this;rw[Bq,hF];exact ⟨λr h=>by injection h with h;exact h.symm,λ_=>rfl⟩
   refine And.imp_right (λh2 hk=>h2 (by rw[ih.2 (by omega)];simp)) (fin _ ih.1 _ ?_);rw[hw];simp only[ZBu,wvS];split<;>split<;>simp[*,Int.mul_comm]
theorem Zj1 {l:List Zc} {k:Int} (hp:ZvJ l k):Zhu l k=some (wvS (Zh1 l k)) :=
 ZAT ⟨k.toNat+1,(ZhY l _ k hp).2 (by have:=hp.1;omega)⟩ (λn r h=>(ZhY l n k hp).1 r h)
def Zlw (c:Zc):Bool:=decide (0<=Zc.Place c)&&decide (0<=Zc.Yx c)&&decide (Zc.Yx c<=Zc.Xt c)&&decide (Zc.Xt c<=100000)&&within (Zc.Zas c) 0 100000
def Zof (c:Zc):Bool:=within (Zc.Xl c) 2 100000&&within (Zc.Qd c) 0 (Wq (Zc.Xl c-1))&&within (Zc.QX c) 0 (Wq (Zc.Xl c-1))&&decide (Zc.Qd c≠Zc.QX c)&&decide (Zc.Divide c=1)&&!Zc.Zgf c
def ZB5 (l:List Zc) (k:Int) (c:Zc):Bool:=within (Zc.Source c) 0 (Wq (k-1))&&within (Zc.Divide c) 1 8&&decide (Zc.Xl c=0)&&decide (Zc.Qd c=0)&&decide (Zc.QX c=0)&&decide ((Zh1 l k).period<=100000)
def Zhz (l:List Zc) (k:Int) (c:Zc):Bool:=Zlw c&&(if Zc.Source c=-1 then Zof c else ZB5 l k c)
theorem ZoH (c:Zc):ZaC c=some (Zof c):=by
 unfold ZaC;simp only[Jp,Bq];repeat' split
 all_goals simp[Zof, *]
theorem Zop (c:Zc):Zfo c=some (Zof c):=by
 unfold Zfo;simp only[Zaj,Bq];repeat' split
 all_goals simp[Zof, *]
theorem ZCx (c:Zc):Zlw c=(decide (0<=Zc.Place c)&&within (Zc.Yx c) 0 100000&&within (Zc.Xt c) (Zc.Yx c) 100000&&within (Zc.Zas c) 0 100000):=by
 rw[Bool.eq_iff_iff];simp only[Zlw,within,Bool.and_eq_true,decide_eq_true_eq];omega
theorem Zqq (c:Zc) (hl:(Zc.Name c).length<=4611686018427387904):Zhm c=some (Za9 (Zc.Name c)&&Zlw c):=by
 unfold Zhm;rw[ZcD _ hl,ZCx];simp only[Zaj,Bq];repeat' split
 all_goals simp[*]
def ZtN (l:List Zc) (m:Int):Prop:=∀ (j:Nat) (c:Zc),(j:Int)<m->l[j]?=some c->Zhz l j c=true
theorem Zwp {l:List Zc} {k:Nat} {c:Zc} (h:Zhz l k c=true) (hk:(k:Int)<=1000000):Zc.Source c=-1\/0<=Zc.Source c/\Zc.Source c<k:=by
 unfold Zhz at h;simp only[Bool.and_eq_true] at h;split at h
 ·exact .inl (by assumption)
 ·have h2:=h.2
  unfold ZB5 at h2;simp only[within,Bool.and_eq_true,decide_eq_true_eq] at h2;rw[YT (by omega) (by omega)] at h2;omega
theorem ZtN.src {l:List Zc} {m:Int} (h:ZtN l m) (hm:m<=1000000):Zyw l m:=by
 intro j c hj hc;have:=Zwp (h j c hj hc) (by omega);omega
theorem Ztd {l:List Zc} {k:Int} {c:Zc} (h0:0<=k) (h1:k<l.length) (hk:k<=1000) (h:ZtN l k) (hc:l[k.toNat]?=some c) (hs:Zc.Source c<k):ZvJ l k:=by
 refine ⟨h0,h1,λj d hj hd=>?_⟩;by_cases hjk:(j:Int)<k
 ·exact h.src (by omega) j d hjk hd
 ·have:j=k.toNat:=by omega
  subst this;rw[hc] at hd;injection hd with hd;subst hd
  omega
theorem ZtJ {s k:Int} (hk0:0<=k) (hk:k<=1000) (h:within s 0 (Wq (k-1))=true):0<=s/\s<k:=by
 rw[QO,YT (by omega) (by omega)] at h;omega
theorem ZyB (l:List Zc) (k:Int) (c:Zc):Zhz l k c=(decide (0<=Zc.Place c)&&decide (0<=Zc.Yx c)&&decide (Zc.Yx c<=Zc.Xt c)&&decide (Zc.Xt c<=100000)&&within (Zc.Zas c) 0 100000 &&
  (if Zc.Source c=-1 then Zof c else within (Zc.Source c) 0 (Wq (k-1))&&within (Zc.Divide c) 1 8&&decide (Zc.Xl c=0)&&decide (Zc.Qd c=0)&&decide (Zc.QX c=0)&&decide ((Zh1 l k).period<=100000))):=rfl
theorem Zq9 {l:List Zc} {k:Int} {c:Zc} (h0:0<=k) (h1:k<l.length) (hk:k<=1000) (h:ZtN l k) (hc:l[k.toNat]?=some c):Zii l k=some (Zhz l k c):=by
 have hw:within (Zc.Source c) 0 (Wq (k-1))=true->ZfA l k=some (wvI (Zh1 l k)):=λhh=>ZiR (Ztd h0 h1 hk h hc (ZtJ h0 hk hh).2);unfold Zii;rw[QF h0 hc,ZyB];clear h0 h1 hk h hc;simp only[Jp,Bq,ZoH];generalize Zof c=pr;generalize Zc.Place c=v1 at *;generalize Zc.Yx c=v2 at *;generalize Zc.Xt c=v3 at *;generalize Zc.Zas c=v4 at *;generalize Zc.Source c=v5 at *;generalize Zc.Divide c=v6 at *;generalize Zc.Xl c=v7 at *;generalize Zc.Qd c=v8 at *;generalize Zc.QX c=v9 at *;by_cases a1:v1<0
 ·have:¬0<=v1:=by omega
  simp[a1,this]
 by_cases a2:v2<0
 ·have:¬0<=v2:=by omega
  simp[a1,a2,this]
 by_cases a3:v3<v2
 ·have:¬v2<=v3:=by omega
  simp[a1,a2,a3,this]
 by_cases a4:100000<v3
 ·have:¬v3<=100000:=by omega
  simp[a1,a2,a3,a4,this]
 rw[if_neg a1,if_neg a2,if_neg a3,if_neg a4,decide_eq_true (show 0<=v1 by omega),decide_eq_true (show 0<=v2 by omega),decide_eq_true (show v2<=v3 by omega),decide_eq_true (show v3<=100000 by omega)];cases within v4 0 100000
 ·simp
 simp only[if_true,Bool.true_and];by_cases a5:v5=-1
 ·rw[if_pos a5,if_pos a5]
 rw[if_neg a5,if_neg a5];cases hw5:within v5 0 (Wq (k-1))
 ·simp
 rw[hw hw5];simp only[if_true,Bool.true_and];cases within v6 1 8
 ·simp
 by_cases a7:v7=0
 ·by_cases a8:v8=0
  ·by_cases a9:v9=0
   ·simp[a7,a8,a9,wvI]
   ·simp[a7,a8,a9]
  ·simp[a7,a8]
 ·simp[a7]
def Zj9 (l:List Zc):List (List UInt8):=l.map Zc.Name
def ZgZ (l:List Zc):Prop:=l.length<=6/\ZtN l l.length/\Ji (Zj9 l) l.length
theorem ZpU (l:List Zc):Zg2 l=some (tr (ZgZ l)):=by
 unfold Zg2;split
 ·rename_i h
  rw[ZP];intro hh;have:=hh.1;omega
 ·rename_i h6
  refine Yb l.length (λk v=>v.2.1=(k:Int)/\v.1=Zj9 (l.take k)/\ZtN l k) _ ⟨rfl,rfl,λj s hj=>by omega⟩ ?_ ?_
  ·rintro k ⟨ns,i,⟨⟩⟩ hk ⟨hi,hns,hS⟩
   simp only at hi hns;subst hi;have hx:l[k]?=some l[k]:=List.getElem?_eq_getElem hk;generalize l[k]=x at hx;simp only[ZdV,Zp,hx,Bq,show (k:Int)<(l.length:Int) from by omega,if_true,YT (show (-9223372036854775808:Int)<=(k:Int)+1 by omega) (by omega)];rw[Zq9 (by omega) (by omega) (by omega) hS (by simpa using hx),Bq];split
   ·rename_i hok
    have hlen:ns.length=k:=by rw[hns];simp[Zj9];omega
    rw[Zh (by simp only[List.length_singleton];omega)];refine .inl ⟨_,rfl,by simp,by rw[hns,YP hx];simp[Zj9],λj d hj hd=>?_⟩;by_cases e:(j:Int)<k
    ·exact hS j d e hd
    ·have:j=k:=by omega
     subst this;rw[hx] at hd;injection hd with hd;subst hd
     exact hok
   ·rename_i hok
    right;rw[ZP];intro hh;exact hok (hh.2.1 k x (by omega) hx)
  ·rintro ⟨ns,i,⟨⟩⟩ ⟨hi,hns,hS⟩
   simp only at hi hns;subst hi;rw[List.take_length] at hns;have hlen:(Zj9 l).length=l.length:=by simp[Zj9]
   subst hns;simp only[ZdV,Int.lt_irrefl,if_false];rw[V5 _ (by omega),Bq,hlen];congr 2;by_cases hN:Ji (Zj9 l) l.length
   ·rw[ZR hN,ZR ⟨by omega,hS,hN⟩]
   ·rw[ZP hN,ZP (λhh=>hN hh.2.2)]
def ZDi (l:List Zc):Prop:=∀ c∈l,(Zc.Name c).length<=4611686018427387904
theorem ZlO {l:List Zc} {k:Nat} {c:Zc} (h:l[k]?=some c):(Zj9 l)[k]?=some (Zc.Name c):=by simp[Zj9,h]
theorem Znf {l:List Zc} {k:Nat} {c:Zc} (hk:k<l.length) (h6:l.length<=6) (hc:l[k]?=some c) (hpre:ZtN l k) (hpl:Zlw c=true) :
  Zo (λv=>Zbp l (k:Int) c v.1) ((0:Int),()) =
   some (if Zc.Name c∈(Zj9 l).take k then .inr false else if Zhz l k c=true then .inl ((k:Int)+1,()) else .inr false):=by
 refine Yb k (λm v=>v.1=(m:Int)/\Zc.Name c ∉ (Zj9 l).take m) _ ⟨rfl,by simp⟩ ?_ ?_
 ·rintro m ⟨i,⟨⟩⟩ hm ⟨hi,hn⟩
  simp only at hi;subst hi;have hx:l[m]?=some l[m]:=List.getElem?_eq_getElem (by omega);generalize l[m]=x at hx;have hxn:=ZlO hx;simp only[Zbp,Zp,hx,Bq,show (m:Int)<(k:Int) from by omega,if_true,YT (show (-9223372036854775808:Int)<=(m:Int)+1 by omega) (by omega)];split
  ·rename_i e
   right;rw[if_pos];rw[<-e];refine List.mem_iff_getElem?.2 ⟨m,?_⟩;rw[List.getElem?_take,if_pos hm,hxn]
  ·rename_i e
   refine .inl ⟨_,rfl,by simp,?_⟩;rw[YP hxn];simp only[List.mem_append,List.mem_singleton,not_or];exact ⟨hn,λh=>e h.symm⟩
 ·rintro ⟨i,⟨⟩⟩ ⟨hi,hn⟩
  simp only at hi;subst hi;have hw:within (Zc.Source c) 0 (Wq ((k:Int)-1))=true->Zhu l k=some (wvS (Zh1 l k)):=λhh =>
   Zj1 (Ztd (by omega) (by omega) (by omega) hpre (by simpa using hc) (ZtJ (by omega) (by omega) hh).2)
  rw[if_neg hn];simp only[Zbp,Int.lt_irrefl,if_false,Zop,Zaj,Bq,YT (show (-9223372036854775808:Int)<=(k:Int)+1 by omega) (by omega)];have e:Zhz l k c=(Zlw c&&_):=rfl;rw[e,hpl,Bool.true_and];by_cases a1:Zc.Source c=-1
  ·rw[if_pos a1,if_pos a1]
   cases Zof c<;>simp
  rw[if_neg a1,if_neg a1];unfold ZB5;cases hw5:within (Zc.Source c) 0 (Wq ((k:Int)-1))
  ·simp
  rw[hw hw5];simp only[if_true,Bool.true_and,Bq];cases within (Zc.Divide c) 1 8
  ·simp
  by_cases a7:Zc.Xl c=0
  ·by_cases a8:Zc.Qd c=0
   ·by_cases a9:Zc.QX c=0
    ·by_cases a10:100000<(Zh1 l k).period
     ·have:¬(Zh1 l k).period<=100000:=by omega
      simp[a7,a8,a9,wvS,a10,this]
     ·have:(Zh1 l k).period<=100000:=by omega
      simp[a7,a8,a9,wvS,a10,this]
    ·simp[a7,a8,a9]
   ·simp[a7,a8]
  ·simp[a7]
theorem Zql (l:List Zc) (hn:ZDi l) (hl:l.length<=4611686018427387904):Zhg l=some (tr (ZgZ l)):=by
 unfold Zhg;refine Yb l.length (λk v=>v.1=(k:Int)/\(0<k->l.length<=6)/\ZtN l k/\Ji (Zj9 l) k) _ ⟨rfl,by omega,λj s hj=>by omega,λj s hj=>by omega⟩ ?_ ?_
 ·rintro k ⟨i,⟨⟩⟩ hk ⟨hi,_,hS,hN⟩
  simp only at hi;subst hi;have hx:l[k]?=some l[k]:=List.getElem?_eq_getElem hk;generalize l[k]=x at hx;simp only[Zd7,Zp,hx,Bq,show (k:Int)<(l.length:Int) from by omega,if_true];split
  ·rename_i h6
   have h6':l.length<=6:=by omega
   rw[Zqq _ (hn x (List.mem_of_getElem? hx)),Bq];split
   ·rename_i hp
    simp only[Bool.and_eq_true] at hp;rw[Znf hk h6' hx hS hp.2];split
    ·rename_i hm
     right;rw[ZP];exact λhh=>(hh.2.2 k (Zc.Name x) hk (ZlO hx)).2 hm
    ·rename_i hm
     split
     ·rename_i hok
      refine .inl ⟨_,rfl,by simp,λ_=>h6',λj d hj hd=>?_,λj s hj hs=>?_⟩
      ·by_cases e:(j:Int)<k
       ·exact hS j d e hd
       ·have:j=k:=by omega
        subst this;rw[hx] at hd;injection hd with hd;subst hd
        exact hok
      ·by_cases e:j<k
       ·exact hN j s e hs
       ·have:j=k:=by omega
        subst this;rw[ZlO hx] at hs;injection hs with hs;subst hs
        exact ⟨hp.1,hm⟩
     ·rename_i hok
      right;rw[ZP];exact λhh=>hok (hh.2.1 k x (by omega) hx)
   ·rename_i hp
    right;rw[ZP];intro hh;have h1:=(hh.2.2 k (Zc.Name x) hk (ZlO hx)).1;have h2:=hh.2.1 k x (by omega) hx;unfold Zhz at h2;simp only[Bool.and_eq_true] at h2;exact hp (by rw[h1,h2.1];rfl)
  ·rename_i h6
   right;rw[ZP (λhh=>h6 (by have:=hh.1;omega))];simp[h6]
 ·rintro ⟨i,⟨⟩⟩ ⟨hi,_,hS,hN⟩
  simp only at hi;subst hi;simp only[Zd7,Int.lt_irrefl,if_false];by_cases h6:(l.length:Int)<=6
  ·rw[ZR ⟨by omega,hS,hN⟩,decide_eq_true h6]
  ·rw[ZP (λhh=>h6 (by have:=hh.1;omega)),decide_eq_false h6]
structure ZLy (w:Wv):Prop where
 p1:2<=w.period
 p2:w.period<=100000
 r1:0<=w.rise
 r2:w.rise<w.period
 f1:0<=w.fall
 f2:w.fall<w.period
theorem ZG9 {l:List Zc} {m:Int} (hm:m<=6) (h:ZtN l m):∀ (n:Nat) (k:Int),k<n->0<=k->k<m->k<l.length->ZLy (Zh1 l k)
 | 0,k,h1,h2,_,_=>by omega
 | n+1,k,h1,h2,h3,h4=>by
  obtain ⟨c,hc⟩:∃ c,l[k.toNat]?=some c:=⟨_,List.getElem?_eq_getElem (by omega)⟩;have hck:=h k.toNat c (by omega) hc;rw[show ((k.toNat:Nat):Int)=k by omega] at hck;have hsrc:Zyw l (k+1):=λj d hj hd=>h.src (by omega) j d (by omega) hd;have hw:=Zxd l k h2 c hc hsrc;simp only[Zhz,Bool.and_eq_true] at hck;obtain ⟨hpl,hck⟩:=hck;split at hck
  ·rename_i hs
   rw[if_pos (by omega)] at hw;simp only[Zof,within,Bool.and_eq_true,decide_eq_true_eq] at hck;obtain ⟨⟨⟨⟨⟨⟨a1,a2⟩,a3,a4⟩,a5,a6⟩,_⟩,_⟩,_⟩:=hck;rw[YT (by omega) (by omega)] at a4 a6;rw[hw];constructor<;>simp only<;>omega
  ·simp only[ZB5,within,Bool.and_eq_true,decide_eq_true_eq] at hck
   obtain ⟨⟨⟨⟨⟨⟨a1,a2⟩,a3,a4⟩,_⟩,_⟩,_⟩,a5⟩:=hck;rw[YT (by omega) (by omega)] at a2;rw[if_neg (by omega)] at hw;have ih:=ZG9 hm h n (Zc.Source c) (by omega) a1 (by omega) (by omega);have b1:=ih.p1;have b2:=ih.p2;have b3:=ih.r1;have b4:=ih.r2;have b5:=ih.f1;have b6:=ih.f2;rw[hw] at a5 ⊢;clear hw ih;simp only[ZBu] at a5 ⊢;generalize Zh1 l (Zc.Source c)=w at *;generalize Zc.Divide c=dv at *;have q1:0<=dv.tdiv 2/\dv.tdiv 2<=4:=by
    rw[Int.tdiv_eq_ediv_of_nonneg (by omega)];omega
   have q2:2*1<=dv*w.period/\dv*w.period<=8*100000:=by
    constructor
    ·have:=Int.mul_le_mul a3 b1 (by omega) (by omega);omega
    ·exact Int.mul_le_mul a4 b2 (by omega) (by omega)
   have q3:0<=dv.tdiv 2*w.period/\dv.tdiv 2*w.period<=4*100000:=by
    constructor
    ·exact Int.mul_nonneg q1.1 (by omega)
    ·exact Int.mul_le_mul q1.2 b2 (by omega) (by omega)
   have q4:1<dv->dv.tdiv 2*w.period<=dv*w.period-w.period:=by
    intro hd;have h1:dv.tdiv 2<=dv-1:=by rw[Int.tdiv_eq_ediv_of_nonneg (by omega)];omega
    have:=Int.mul_le_mul_of_nonneg_right h1 (show 0<=w.period by omega);rw[Int.sub_mul,Int.one_mul] at this;exact this
   have q5:1<dv->w.period<=dv*w.period:=by
    intro hd;have:=Int.mul_le_mul_of_nonneg_right (show (1:Int)<=dv by omega) (show 0<=w.period by omega);rw[Int.one_mul] at this;exact this
   rw[YT (n:=dv*w.period) (by omega) (by omega),YT (n:=dv.tdiv 2) (by omega) (by omega),YT (n:=dv.tdiv 2*w.period) (by omega) (by omega),YT (n:=w.rise+dv.tdiv 2*w.period) (by omega) (by omega)] at a5 ⊢;by_cases c1:1<dv<;>by_cases c2:Zc.Zgf c=true
   all_goals simp only[c1,c2,if_true,if_false,Bool.false_eq_true,true_implies,false_implies] at a5 q4 q5 ⊢
   all_goals (constructor<;>(try simp only)<;>omega)
theorem ZLX {l:List Zc} {k:Int} (h:ZgZ l) (h0:0<=k) (hk:k<l.length):ZLy (Zh1 l k):=by
 have h6:=h.1;exact ZG9 (by omega) h.2.1 (k.toNat+1) k (by omega) h0 hk hk
theorem Zye {l:List Zc} {k:Int} (h:ZgZ l) (h0:0<=k) (hk:k<l.length):ZvJ l k :=
 ⟨h0,hk,λj c hj hc=>h.2.1.src (by have:=h.1;omega) j c (by omega) hc⟩
theorem Zn2 (a:YQ) (left:Int) (h0:0<=left) (h1:left<=1048576) (hb:bnd (Zge) a):Szd (Zet a left) left (sm (Zge) a):=by
 unfold Zet;refine Szd.len h0 h1 (by omega) hb.1 (λhw a0 b0 s0=>?_);rw[hw];exact Szd.ret ⟨s0,Y4 _ (by rfl) _,Y4 _ (by rfl) _,Y4 _ (by rfl) _,trivial⟩
theorem ZsM (a:List (YQ)) (left:Int) (h0:0<=left) (h1:left<=1048576) (hb:bnd (.sl (Zge)) a):Szd (ZfC a left) left (sm (.sl (Zge)) a):=by
 unfold ZfC;refine Szd.len h0 h1 (by omega) hb.1 (λhw m0 m1 hn=>?_);rw[hw];exact (Szd.loop (f:=λx m=>Zet x m) (P:=λx=>sm (Zge) x) (λx hx m m0 m1=>Zn2 x m m0 m1 (hb.2 x hx)) (λk m=>rfl) m0 m1 hn).mono (λh=>⟨hn,h⟩)
theorem Xq (a:List (Int)) (left:Int) (h0:0<=left) (h1:left<=1048576) (hb:bnd (.sl (.int .i64)) a):Szd (Xd a left) left (sm (.sl (.int .i64)) a):=by
 unfold Xd;refine Szd.len h0 h1 (by omega) hb.1 (λhw m0 m1 hn=>?_);rw[hw];exact Szd.ret ⟨hn,λx _=>Y4 (.int .i64) (by rfl) x⟩
theorem Zlq (a:Zz) (left:Int) (h0:0<=left) (h1:left<=1048576) (hb:bnd (Xw) a):Szd (Za8 a left) left (sm (Xw) a):=by
 unfold Za8;refine Szd.then (Xq _ _ h0 h1 hb.1) h0 h1 (λm0 a0 b0 s0=>?_);refine Szd.then (Xq _ _ a0 b0 hb.2.1) a0 b0 (λm1 a1 b1 s1=>?_);refine Szd.last (Xq _ _ a1 b1 hb.2.2.1) a1 (λs2=>?_);exact ⟨s0,s1,s2,trivial⟩
theorem Zkg (a:List (Zz)) (left:Int) (h0:0<=left) (h1:left<=1048576) (hb:bnd (.sl (Xw)) a):Szd (Zbm a left) left (sm (.sl (Xw)) a):=by
 unfold Zbm;refine Szd.len h0 h1 (by omega) hb.1 (λhw m0 m1 hn=>?_);rw[hw];exact (Szd.loop (f:=λx m=>Za8 x m) (P:=λx=>sm (Xw) x) (λx hx m m0 m1=>Zlq x m m0 m1 (hb.2 x hx)) (λk m=>rfl) m0 m1 hn).mono (λh=>⟨hn,h⟩)
theorem ZnY (a:ZG) (left:Int) (h0:0<=left) (h1:left<=1048576) (hb:bnd (ZgE) a):Szd (Zeq a left) left (sm (ZgE) a):=by
 unfold Zeq;refine Szd.then (Zkg _ _ h0 h1 hb.2.2.2.2.1) h0 h1 (λm0 a0 b0 s0=>?_);refine Szd.last (Zkg _ _ a0 b0 hb.2.2.2.2.2.1) a0 (λs1=>?_);exact ⟨Y4 _ (by rfl) _,Y4 _ (by rfl) _,Y4 _ (by rfl) _,Y4 _ (by rfl) _,s0,s1,trivial⟩
theorem ZsK (a:List (ZG)) (left:Int) (h0:0<=left) (h1:left<=1048576) (hb:bnd (.sl (ZgE)) a):Szd (ZfB a left) left (sm (.sl (ZgE)) a):=by
 unfold ZfB;refine Szd.len h0 h1 (by omega) hb.1 (λhw m0 m1 hn=>?_);rw[hw];exact (Szd.loop (f:=λx m=>Zeq x m) (P:=λx=>sm (ZgE) x) (λx hx m m0 m1=>ZnY x m m0 m1 (hb.2 x hx)) (λk m=>rfl) m0 m1 hn).mono (λh=>⟨hn,h⟩)
theorem Zmn (a:Zn) (left:Int) (h0:0<=left) (h1:left<=1048576) (hb:bnd (V8) a):Szd (Zcr a left) left (sm (V8) a):=by
 unfold Zcr;refine Szd.len h0 h1 (by omega) hb.1 (λhw a0 b0 s0=>?_);rw[hw];refine Szd.then (ZsM _ _ a0 b0 hb.2.2.1) a0 b0 (λm1 a1 b1 s1=>?_);refine Szd.then (ZsK _ _ a1 b1 hb.2.2.2.1) a1 b1 (λm2 a2 b2 s2=>?_);refine Szd.last (Xq _ _ a2 b2 hb.2.2.2.2.1) a2 (λs3=>?_);exact ⟨s0,Y4 _ (by rfl) _,s1,s2,s3,Y4 _ (by rfl) _,Y4 _ (by rfl) _,trivial⟩
theorem Zru (a:List (Zn)) (left:Int) (h0:0<=left) (h1:left<=1048576) (hb:bnd (.sl (V8)) a):Szd (Zes a left) left (sm (.sl (V8)) a):=by
 unfold Zes;refine Szd.len h0 h1 (by omega) hb.1 (λhw m0 m1 hn=>?_);rw[hw];exact (Szd.loop (f:=λx m=>Zcr x m) (P:=λx=>sm (V8) x) (λx hx m m0 m1=>Zmn x m m0 m1 (hb.2 x hx)) (λk m=>rfl) m0 m1 hn).mono (λh=>⟨hn,h⟩)
theorem Zo8 (a:ZE) (left:Int) (h0:0<=left) (h1:left<=1048576) (hb:bnd (Xf) a):Szd (ZbL a left) left (sm (Xf) a):=by
 unfold ZbL;refine Szd.last (Zru _ _ h0 h1 hb.1) h0 (λs0=>?_);exact ⟨s0,trivial⟩
theorem Zit (a:Zk) (left:Int) (h0:0<=left) (h1:left<=1048576) (hb:bnd (Yl) a):Szd (VT a left) left (sm (Yl) a):=by
 unfold VT;refine Szd.len h0 h1 (by omega) hb.1 (λhw a0 b0 s0=>?_);rw[hw];refine Szd.last (Xq _ _ a0 b0 hb.2.2.1) a0 (λs1=>?_);exact ⟨s0,Y4 _ (by rfl) _,s1,trivial⟩
theorem ZmY (a:List (Zk)) (left:Int) (h0:0<=left) (h1:left<=1048576) (hb:bnd (.sl (Yl)) a):Szd (JW a left) left (sm (.sl (Yl)) a):=by
 unfold JW;refine Szd.len h0 h1 (by omega) hb.1 (λhw m0 m1 hn=>?_);rw[hw];exact (Szd.loop (f:=λx m=>VT x m) (P:=λx=>sm (Yl) x) (λx hx m m0 m1=>Zit x m m0 m1 (hb.2 x hx)) (λk m=>rfl) m0 m1 hn).mono (λh=>⟨hn,h⟩)
theorem Zpa (a:List (List UInt8)) (left:Int) (h0:0<=left) (h1:left<=1048576) (hb:bnd (.sl (.str)) a):Szd (ZbM a left) left (sm (.sl (.str)) a):=by
 unfold ZbM;refine Szd.len h0 h1 (by omega) hb.1 (λhw m0 m1 hn=>?_);rw[hw];exact (Szd.loop (f:=λx m=>if Wq (m-(x.length:Int))<0 then some (-1) else some (Wq (m-(x.length:Int)))) (P:=λx=>sm .str x) (λx hx m m0 m1=>Szd.len m0 m1 (by omega) (hb.2 x hx) (λhw _ _ hn=>by rw[hw];exact Szd.ret hn)) (λk m=>by
  show Jg a m (k:Int)=_;unfold Jg;congr 1;congr 1;funext x;split<;>simp_all) m0 m1 hn).mono (λh=>⟨hn,h⟩)
theorem Zmo (a:Yj) (left:Int) (h0:0<=left) (h1:left<=1048576) (hb:bnd (Za3) a):Szd (Zcs a left) left (sm (Za3) a):=by
 unfold Zcs;refine Szd.len h0 h1 (by omega) hb.1 (λhw a0 b0 s0=>?_);rw[hw];exact Szd.ret ⟨s0,Y4 _ (by rfl) _,Y4 _ (by rfl) _,trivial⟩
theorem Zrx (a:List (Yj)) (left:Int) (h0:0<=left) (h1:left<=1048576) (hb:bnd (.sl (Za3)) a):Szd (Zeu a left) left (sm (.sl (Za3)) a):=by
 unfold Zeu;refine Szd.len h0 h1 (by omega) hb.1 (λhw m0 m1 hn=>?_);rw[hw];exact (Szd.loop (f:=λx m=>Zcs x m) (P:=λx=>sm (Za3) x) (λx hx m m0 m1=>Zmo x m m0 m1 (hb.2 x hx)) (λk m=>rfl) m0 m1 hn).mono (λh=>⟨hn,h⟩)
theorem Zp8 (a:Zf) (left:Int) (h0:0<=left) (h1:left<=1048576) (hb:bnd (YZ) a):Szd (ZcY a left) left (sm (YZ) a):=by
 unfold ZcY;refine Szd.then (ZmY _ _ h0 h1 hb.1) h0 h1 (λm0 a0 b0 s0=>?_);refine Szd.then (Zpa _ _ a0 b0 hb.2.1) a0 b0 (λm1 a1 b1 s1=>?_);refine Szd.last (Zrx _ _ a1 b1 hb.2.2.1) a1 (λs2=>?_);exact ⟨s0,s1,s2,trivial⟩
theorem Zmp (a:ZB) (left:Int) (h0:0<=left) (h1:left<=1048576) (hb:bnd (ZaB) a):Szd (Zct a left) left (sm (ZaB) a):=by
 unfold Zct;refine Szd.then (Xq _ _ h0 h1 hb.1) h0 h1 (λm0 a0 b0 s0=>?_);refine Szd.then (Xq _ _ a0 b0 hb.2.1) a0 b0 (λm1 a1 b1 s1=>?_);refine Szd.then (Xq _ _ a1 b1 hb.2.2.1) a1 b1 (λm2 a2 b2 s2=>?_);refine Szd.last (Xq _ _ a2 b2 hb.2.2.2.1) a2 (λs3=>?_);exact ⟨s0,s1,s2,s3,trivial⟩
theorem ZrA (a:List (ZB)) (left:Int) (h0:0<=left) (h1:left<=1048576) (hb:bnd (.sl (ZaB)) a):Szd (Zew a left) left (sm (.sl (ZaB)) a):=by
 unfold Zew;refine Szd.len h0 h1 (by omega) hb.1 (λhw m0 m1 hn=>?_);rw[hw];exact (Szd.loop (f:=λx m=>Zct x m) (P:=λx=>sm (ZaB) x) (λx hx m m0 m1=>Zmp x m m0 m1 (hb.2 x hx)) (λk m=>rfl) m0 m1 hn).mono (λh=>⟨hn,h⟩)
theorem Zrt (a:Zd) (left:Int) (h0:0<=left) (h1:left<=1048576) (hb:bnd (YA) a):Szd (Zer a left) left (sm (YA) a):=by
 unfold Zer;refine Szd.then (Zo8 _ _ h0 h1 hb.1) h0 h1 (λm0 a0 b0 s0=>?_);refine Szd.then (Zp8 _ _ a0 b0 hb.2.1) a0 b0 (λm1 a1 b1 s1=>?_);refine Szd.last (ZrA _ _ a1 b1 hb.2.2.1) a1 (λs2=>?_);exact ⟨s0,s1,s2,trivial⟩
theorem Zlo (a:Zc) (left:Int) (h0:0<=left) (h1:left<=1048576) (hb:bnd (Xh) a):Szd (Za7 a left) left (sm (Xh) a):=by
 unfold Za7;refine Szd.len h0 h1 (by omega) hb.1 (λhw a0 b0 s0=>?_);rw[hw];exact Szd.ret ⟨s0,Y4 _ (by rfl) _,Y4 _ (by rfl) _,Y4 _ (by rfl) _,Y4 _ (by rfl) _,Y4 _ (by rfl) _,Y4 _ (by rfl) _,Y4 _ (by rfl) _,Y4 _ (by rfl) _,Y4 _ (by rfl) _,Y4 _ (by rfl) _,trivial⟩
theorem Zp6 (a:List (Zc)) (left:Int) (h0:0<=left) (h1:left<=1048576) (hb:bnd (.sl (Xh)) a):Szd (ZcX a left) left (sm (.sl (Xh)) a):=by
 unfold ZcX;refine Szd.len h0 h1 (by omega) hb.1 (λhw m0 m1 hn=>?_);rw[hw];exact (Szd.loop (f:=λx m=>Za7 x m) (P:=λx=>sm (Xh) x) (λx hx m m0 m1=>Zlo x m m0 m1 (hb.2 x hx)) (λk m=>rfl) m0 m1 hn).mono (λh=>⟨hn,h⟩)
theorem ZhL (a:List (Zg)) (left:Int) (h0:0<=left) (h1:left<=1048576) (hb:bnd (.sl (Z5)) a):Szd (V6 a left) left (sm (.sl (Z5)) a):=by
 unfold V6;refine Szd.len h0 h1 (by omega) hb.1 (λhw m0 m1 hn=>?_);rw[hw];exact Szd.ret ⟨hn,λx _=>Y4 (Z5) (by rfl) x⟩
theorem ZhK (a:Zr) (left:Int) (h0:0<=left) (h1:left<=1048576) (hb:bnd (ZO) a):Szd (Vs a left) left (sm (ZO) a):=by
 unfold Vs;refine Szd.then (Xq _ _ h0 h1 hb.2.2.1) h0 h1 (λm0 a0 b0 s0=>?_);refine Szd.then (Xq _ _ a0 b0 hb.2.2.2.1) a0 b0 (λm1 a1 b1 s1=>?_);refine Szd.last (Xq _ _ a1 b1 hb.2.2.2.2.1) a1 (λs2=>?_);exact ⟨Y4 _ (by rfl) _,Y4 _ (by rfl) _,s0,s1,s2,trivial⟩
theorem Zl2 (a:List (Zr)) (left:Int) (h0:0<=left) (h1:left<=1048576) (hb:bnd (.sl (ZO)) a):Szd (Jw a left) left (sm (.sl (ZO)) a):=by
 unfold Jw;refine Szd.len h0 h1 (by omega) hb.1 (λhw m0 m1 hn=>?_);rw[hw];exact (Szd.loop (f:=λx m=>Vs x m) (P:=λx=>sm (ZO) x) (λx hx m m0 m1=>ZhK x m m0 m1 (hb.2 x hx)) (λk m=>rfl) m0 m1 hn).mono (λh=>⟨hn,h⟩)
theorem Zkf (a:Zt) (left:Int) (h0:0<=left) (h1:left<=1048576) (hb:bnd (Yd) a):Szd (Zad a left) left (sm (Yd) a):=by
 unfold Zad;refine Szd.len h0 h1 (by omega) hb.1 (λhw a0 b0 s0=>?_);rw[hw];exact Szd.ret ⟨s0,Y4 _ (by rfl) _,Y4 _ (by rfl) _,Y4 _ (by rfl) _,Y4 _ (by rfl) _,trivial⟩
theorem Zo5 (a:List (Zt)) (left:Int) (h0:0<=left) (h1:left<=1048576) (hb:bnd (.sl (Yd)) a):Szd (ZbK a left) left (sm (.sl (Yd)) a):=by
 unfold ZbK;refine Szd.len h0 h1 (by omega) hb.1 (λhw m0 m1 hn=>?_);rw[hw];exact (Szd.loop (f:=λx m=>Zad x m) (P:=λx=>sm (Yd) x) (λx hx m m0 m1=>Zkf x m m0 m1 (hb.2 x hx)) (λk m=>rfl) m0 m1 hn).mono (λh=>⟨hn,h⟩)
theorem Zrz (a:Zu) (left:Int) (h0:0<=left) (h1:left<=1048576) (hb:bnd (Vi) a):Szd (Zev a left) left (sm (Vi) a):=by
 unfold Zev;refine Szd.then (Zp6 _ _ h0 h1 hb.1) h0 h1 (λm0 a0 b0 s0=>?_);refine Szd.then (ZhL _ _ a0 b0 hb.2.1) a0 b0 (λm1 a1 b1 s1=>?_);refine Szd.then (ZhL _ _ a1 b1 hb.2.2.1) a1 b1 (λm2 a2 b2 s2=>?_);refine Szd.then (Zl2 _ _ a2 b2 hb.2.2.2.1) a2 b2 (λm3 a3 b3 s3=>?_);refine Szd.last (Zo5 _ _ a3 b3 hb.2.2.2.2.1) a3 (λs4=>?_);exact ⟨s0,s1,s2,s3,s4,trivial⟩
theorem Zuo (a:YQ) (hs:sm (Zge) a):Zjg a=some a:=by
 unfold Zjg;all_goals rfl
theorem ZsQ (a:List (YQ)) (hs:sm (.sl (Zge)) a):ZjK a=some a:=by
 unfold ZjK;have h:=hs.1;rw[Zh (by omega),Zh (by omega),Zh (by omega),Zh (by omega)];exact ZaM (f:=Zjg) (λx hx=>Zuo x (hs.2 x hx)) (λk out=>rfl) h
theorem Xr (a:List (Int)) (hs:sm (.sl (.int .i64)) a):XH a=some a:=by
 unfold XH;have h:=hs.1;rw[Zh (by omega),Zh (by omega),Zh (by omega),Zh (by omega)];exact ZaM (f:=some) (λx _=>rfl) (λk out=>rfl) h
theorem ZrH (a:Zz) (hs:sm (Xw) a):Zgt a=some a:=by
 unfold Zgt;rw[Xr _ hs.1,Bq,Xr _ hs.2.1,Bq,Xr _ hs.2.2.1,Bq];all_goals rfl
theorem Zkh (a:List (Zz)) (hs:sm (.sl (Xw)) a):Ze4 a=some a:=by
 unfold Ze4;have h:=hs.1;rw[Zh (by omega),Zh (by omega),Zh (by omega),Zh (by omega)];exact ZaM (f:=Zgt) (λx hx=>ZrH x (hs.2 x hx)) (λk out=>rfl) h
theorem Zun (a:ZG) (hs:sm (ZgE) a):Zjf a=some a:=by
 unfold Zjf;rw[Zkh _ hs.2.2.2.2.1,Bq,Zkh _ hs.2.2.2.2.2.1,Bq];all_goals rfl
theorem ZsO (a:List (ZG)) (hs:sm (.sl (ZgE)) a):ZjI a=some a:=by
 unfold ZjI;have h:=hs.1;rw[Zh (by omega),Zh (by omega),Zh (by omega),Zh (by omega)];exact ZaM (f:=Zjf) (λx hx=>Zun x (hs.2 x hx)) (λk out=>rfl) h
theorem ZsP (a:Zn) (hs:sm (V8) a):ZhM a=some a:=by
 unfold ZhM;rw[ZsQ _ hs.2.2.1,Bq,ZsO _ hs.2.2.2.1,Bq,Xr _ hs.2.2.2.2.1,Bq];all_goals rfl
theorem ZrD (a:List (Zn)) (hs:sm (.sl (V8)) a):Ziv a=some a:=by
 unfold Ziv;have h:=hs.1;rw[Zh (by omega),Zh (by omega),Zh (by omega),Zh (by omega)];exact ZaM (f:=ZhM) (λx hx=>ZsP x (hs.2 x hx)) (λk out=>rfl) h
theorem Zpd (a:ZE) (hs:sm (Xf) a):Zf6 a=some a:=by
 unfold Zf6;rw[ZrD _ hs.1,Bq];all_goals rfl
theorem Zn8 (a:Zk) (hs:sm (Yl) a):Zcv a=some a:=by
 unfold Zcv;rw[Xr _ hs.2.2.1,Bq];all_goals rfl
theorem Zm3 (a:List (Zk)) (hs:sm (.sl (Yl)) a):ZdM a=some a:=by
 unfold ZdM;have h:=hs.1;rw[Zh (by omega),Zh (by omega),Zh (by omega),Zh (by omega)];exact ZaM (f:=Zcv) (λx hx=>Zn8 x (hs.2 x hx)) (λk out=>rfl) h
theorem Zpf (a:List (List UInt8)) (hs:sm (.sl (.str)) a):Zf7 a=some a:=by
 unfold Zf7;have h:=hs.1;rw[Zh (by omega),Zh (by omega),Zh (by omega),Zh (by omega)];exact ZaM (f:=some) (λx _=>rfl) (λk out=>rfl) h
theorem ZsR (a:Yj) (hs:sm (Za3) a):ZhO a=some a:=by
 unfold ZhO;all_goals rfl
theorem ZrF (a:List (Yj)) (hs:sm (.sl (Za3)) a):Ziw a=some a:=by
 unfold Ziw;have h:=hs.1;rw[Zh (by omega),Zh (by omega),Zh (by omega),Zh (by omega)];exact ZaM (f:=ZhO) (λx hx=>ZsR x (hs.2 x hx)) (λk out=>rfl) h
theorem Zqf (a:Zf) (hs:sm (YZ) a):Zhd a=some a:=by
 unfold Zhd;rw[Zm3 _ hs.1,Bq,Zpf _ hs.2.1,Bq,ZrF _ hs.2.2.1,Bq];all_goals rfl
theorem ZsS (a:ZB) (hs:sm (ZaB) a):ZhQ a=some a:=by
 unfold ZhQ;rw[Xr _ hs.1,Bq,Xr _ hs.2.1,Bq,Xr _ hs.2.2.1,Bq,Xr _ hs.2.2.2.1,Bq];all_goals rfl
theorem ZrI (a:List (ZB)) (hs:sm (.sl (ZaB)) a):Ziy a=some a:=by
 unfold Ziy;have h:=hs.1;rw[Zh (by omega),Zh (by omega),Zh (by omega),Zh (by omega)];exact ZaM (f:=ZhQ) (λx hx=>ZsS x (hs.2 x hx)) (λk out=>rfl) h
theorem ZrC (a:Zd) (hs:sm (YA) a):Ziu a=some a:=by
 unfold Ziu;rw[Zpd _ hs.1,Bq,Zqf _ hs.2.1,Bq,ZrI _ hs.2.2.1,Bq];all_goals rfl
theorem ZrE (a:Zc) (hs:sm (Xh) a):Zgs a=some a:=by
 unfold Zgs;all_goals rfl
theorem Zqd (a:List (Zc)) (hs:sm (.sl (Xh)) a):Zhc a=some a:=by
 unfold Zhc;have h:=hs.1;rw[Zh (by omega),Zh (by omega),Zh (by omega),Zh (by omega)];exact ZaM (f:=Zgs) (λx hx=>ZrE x (hs.2 x hx)) (λk out=>rfl) h
theorem Zmq (a:Zx) (hs:sm (Xg) a):ZhP a=some a:=by
 unfold ZhP;all_goals rfl
theorem Zn7 (a:Zg) (hs:sm (Z5) a):Zcu a=some a:=by
 unfold Zcu;rw[Zmq _ hs.2.2.1,Bq,Zmq _ hs.2.2.2.1,Bq];all_goals rfl
theorem ZhN (a:List (Zg)) (hs:sm (.sl (Z5)) a):ZbF a=some a:=by
 unfold ZbF;have h:=hs.1;rw[Zh (by omega),Zh (by omega),Zh (by omega),Zh (by omega)];exact ZaM (f:=Zcu) (λx hx=>Zn7 x (hs.2 x hx)) (λk out=>rfl) h
theorem Zm2 (a:Zr) (hs:sm (ZO) a):ZbE a=some a:=by
 unfold ZbE;rw[Xr _ hs.2.2.1,Bq,Xr _ hs.2.2.2.1,Bq,Xr _ hs.2.2.2.2.1,Bq];all_goals rfl
theorem Zl6 (a:List (Zr)) (hs:sm (.sl (ZO)) a):ZcZ a=some a:=by
 unfold ZcZ;have h:=hs.1;rw[Zh (by omega),Zh (by omega),Zh (by omega),Zh (by omega)];exact ZaM (f:=ZbE) (λx hx=>Zm2 x (hs.2 x hx)) (λk out=>rfl) h
theorem Zqe (a:Zt) (hs:sm (Yd) a):Ze3 a=some a:=by
 unfold Ze3;all_goals rfl
theorem Zpc (a:List (Zt)) (hs:sm (.sl (Yd)) a):Zf5 a=some a:=by
 unfold Zf5;have h:=hs.1;rw[Zh (by omega),Zh (by omega),Zh (by omega),Zh (by omega)];exact ZaM (f:=Ze3) (λx hx=>Zqe x (hs.2 x hx)) (λk out=>rfl) h
theorem ZrG (a:Zu) (hs:sm (Vi) a):Zix a=some a:=by
 unfold Zix;rw[Zqd _ hs.1,Bq,ZhN _ hs.2.1,Bq,ZhN _ hs.2.2.1,Bq,Zl6 _ hs.2.2.2.1,Bq,Zpc _ hs.2.2.2.2.1,Bq];all_goals rfl
theorem Zrl (a:List (Bool)) (hs:sm (.sl (.bool)) a):Zim a a=some true:=by
 unfold Zim;rw[if_pos rfl];exact ZB1 (λk=>rfl) hs.1
theorem ZiU (a:Zx) (hs:sm (Xg) a):Zd0 a a=some true:=by
 unfold Zd0;simp
theorem Zlm (a:List (Zx)) (hs:sm (.sl (Xg)) a):Zgp a a=some true:=by
 unfold Zgp;rw[if_pos rfl];exact ZgG (f:=Zd0) (λx hx=>ZiU x (hs.2 x hx)) (λk=>rfl) hs.1
theorem Zp1 (a:Zw) (hs:sm (QT) a):Zg9 a a=some true:=by
 unfold Zg9;simp[Zrl _ hs.1,Zlm _ hs.2.1,Zlm _ hs.2.2.1]
theorem Zum (a:YQ) (hs:sm (Zge) a):Zjb a a=some true:=by
 unfold Zjb;simp
theorem ZsH (a:List (YQ)) (hs:sm (.sl (Zge)) a):ZjG a a=some true:=by
 unfold ZjG;rw[if_pos rfl];exact ZgG (f:=Zjb) (λx hx=>Zum x (hs.2 x hx)) (λk=>rfl) hs.1
theorem Xp (a:List (Int)) (hs:sm (.sl (.int .i64)) a):XG a a=some true:=by
 unfold XG;rw[if_pos rfl];exact ZxC (λk=>rfl) hs.1
theorem Zrq (a:Zz) (hs:sm (Xw) a):Zgq a a=some true:=by
 unfold Zgq;simp[Xp _ hs.1,Xp _ hs.2.1,Xp _ hs.2.2.1]
theorem Zke (a:List (Zz)) (hs:sm (.sl (Xw)) a):ZeY a a=some true:=by
 unfold ZeY;rw[if_pos rfl];exact ZgG (f:=Zgq) (λx hx=>Zrq x (hs.2 x hx)) (λk=>rfl) hs.1
theorem Zul (a:ZG) (hs:sm (ZgE) a):Zja a a=some true:=by
 unfold Zja;simp[Zke _ hs.2.2.2.2.1,Zke _ hs.2.2.2.2.2.1]
theorem ZsF (a:List (ZG)) (hs:sm (.sl (ZgE)) a):ZjE a a=some true:=by
 unfold ZjE;rw[if_pos rfl];exact ZgG (f:=Zja) (λx hx=>Zul x (hs.2 x hx)) (λk=>rfl) hs.1
theorem ZsG (a:Zn) (hs:sm (V8) a):ZhG a a=some true:=by
 unfold ZhG;simp[ZsH _ hs.2.2.1,ZsF _ hs.2.2.2.1,Xp _ hs.2.2.2.2.1]
theorem Zrm (a:List (Zn)) (hs:sm (.sl (V8)) a):Zin a a=some true:=by
 unfold Zin;rw[if_pos rfl];exact ZgG (f:=ZhG) (λx hx=>ZsG x (hs.2 x hx)) (λk=>rfl) hs.1
theorem ZoT (a:ZE) (hs:sm (Xf) a):ZfW a a=some true:=by
 unfold ZfW;simp[Zrm _ hs.1]
theorem ZnQ (a:Zk) (hs:sm (Yl) a):Zcm a a=some true:=by
 unfold Zcm;simp[Xp _ hs.2.2.1]
theorem ZmR (a:List (Zk)) (hs:sm (.sl (Yl)) a):ZdI a a=some true:=by
 unfold ZdI;rw[if_pos rfl];exact ZgG (f:=Zcm) (λx hx=>ZnQ x (hs.2 x hx)) (λk=>rfl) hs.1
theorem ZoV (a:List (List UInt8)) (hs:sm (.sl (.str)) a):ZfX a a=some true:=by
 unfold ZfX;rw[if_pos rfl];exact ZxC (λk=>rfl) hs.1
theorem ZsI (a:Yj) (hs:sm (Za3) a):ZhI a a=some true:=by
 unfold ZhI;simp
theorem Zro (a:List (Yj)) (hs:sm (.sl (Za3)) a):Zio a a=some true:=by
 unfold Zio;rw[if_pos rfl];exact ZgG (f:=ZhI) (λx hx=>ZsI x (hs.2 x hx)) (λk=>rfl) hs.1
theorem Zp0 (a:Zf) (hs:sm (YZ) a):Zg8 a a=some true:=by
 unfold Zg8;simp[ZmR _ hs.1,ZoV _ hs.2.1,Zro _ hs.2.2.1]
theorem ZsJ (a:ZB) (hs:sm (ZaB) a):ZhJ a a=some true:=by
 unfold ZhJ;simp[Xp _ hs.1,Xp _ hs.2.1,Xp _ hs.2.2.1,Xp _ hs.2.2.2.1]
theorem Zrr (a:List (ZB)) (hs:sm (.sl (ZaB)) a):Zir a a=some true:=by
 unfold Zir;rw[if_pos rfl];exact ZgG (f:=ZhJ) (λx hx=>ZsJ x (hs.2 x hx)) (λk=>rfl) hs.1
theorem Zrk (a:Zd) (hs:sm (YA) a):Zil a a=some true:=by
 unfold Zil;simp[ZoT _ hs.1,Zp0 _ hs.2.1,Zrr _ hs.2.2.1]
theorem Zrn (a:Zc) (hs:sm (Xh) a):Zgo a a=some true:=by
 unfold Zgo;simp
theorem ZpY (a:List (Zc)) (hs:sm (.sl (Xh)) a):Zg7 a a=some true:=by
 unfold Zg7;rw[if_pos rfl];exact ZgG (f:=Zgo) (λx hx=>Zrn x (hs.2 x hx)) (λk=>rfl) hs.1
theorem ZnP (a:Zg) (hs:sm (Z5) a):Zcl a a=some true:=by
 unfold Zcl;simp[ZiU _ hs.2.2.1,ZiU _ hs.2.2.2.1]
theorem ZhH (a:List (Zg)) (hs:sm (.sl (Z5)) a):ZbD a a=some true:=by
 unfold ZbD;rw[if_pos rfl];exact ZgG (f:=Zcl) (λx hx=>ZnP x (hs.2 x hx)) (λk=>rfl) hs.1
theorem ZmQ (a:Zr) (hs:sm (ZO) a):ZbC a a=some true:=by
 unfold ZbC;simp[Xp _ hs.2.2.1,Xp _ hs.2.2.2.1,Xp _ hs.2.2.2.2.1]
theorem ZlZ (a:List (Zr)) (hs:sm (.sl (ZO)) a):ZcW a a=some true:=by
 unfold ZcW;rw[if_pos rfl];exact ZgG (f:=ZbC) (λx hx=>ZmQ x (hs.2 x hx)) (λk=>rfl) hs.1
theorem ZpZ (a:Zt) (hs:sm (Yd) a):ZeX a a=some true:=by
 unfold ZeX;simp
theorem ZoS (a:List (Zt)) (hs:sm (.sl (Yd)) a):ZfV a a=some true:=by
 unfold ZfV;rw[if_pos rfl];exact ZgG (f:=ZeX) (λx hx=>ZpZ x (hs.2 x hx)) (λk=>rfl) hs.1
theorem Zrp (a:Zu) (hs:sm (Vi) a):Ziq a a=some true:=by
 unfold Ziq;simp[ZpY _ hs.1,ZhH _ hs.2.1,ZhH _ hs.2.2.1,ZlZ _ hs.2.2.2.1,ZoS _ hs.2.2.2.2.1]
theorem Zzp {ρ:Type} {P Q:Prop} {_:Decidable P} {m:Option ρ} {a b:ρ} (hm:P->m=some (sel Q a b)):(if P then m else some b)=some (sel (P/\Q) a b):=by
 by_cases h:P
 ·rw[if_pos h,hm h]
  by_cases q:Q
  ·rw[XI q,XI ⟨h,q⟩]
  ·rw[Xe q,Xe (λx=>q x.2)]
 ·rw[if_neg h,Xe (λq=>h q.1)]
theorem Zmx {ρ:Type} {P Q:Prop} {_:Decidable P} {m:Option ρ} {a b:ρ} (hm:¬P->m=some (sel Q a b)):(if P then some b else m)=some (sel (¬P/\Q) a b):=by
 by_cases h:P
 ·rw[if_pos h,Xe (λq=>q.1 h)]
 ·rw[if_neg h,hm h]
  by_cases q:Q
  ·rw[XI q,XI ⟨h,q⟩]
  ·rw[Xe q,Xe (λx=>q x.2)]
theorem Zjk {ρ:Type} {P Q:Prop} {c:Option Bool} {m:Option ρ} {a b:ρ} (h:c=some (tr P)) (hm:P->m=some (sel Q a b)):(c.bind λx=>if x=true then m else some b)=some (sel (P/\Q) a b):=by
 rw[h,Bq];by_cases hp:P
 ·rw[if_pos (ZR hp),hm hp]
  by_cases q:Q
  ·rw[XI q,XI ⟨hp,q⟩]
  ·rw[Xe q,Xe (λx=>q x.2)]
 ·rw[if_neg (by rw[ZP hp];simp),Xe (λq=>hp q.1)]
theorem ZDk {ρ:Type} {a b:ρ}:some a=some (sel True a b):=by rw[XI trivial]
theorem Zmw {ρ:Type} {m:Option ρ} {P Q:Prop} {a b:ρ} (h:m=some (sel P a b)) (hpq:P<->Q):m=some (sel Q a b):=by rw[h,propext hpq]
theorem Zym {ρ:Type} {m:Option ρ} {P:Prop} {a b:ρ} (h:m=some (sel P a b)):(P->m=some a)/\(¬P->m=some b):=⟨λq=>by rw[h,XI q],λq=>by rw[h,Xe q]⟩
def ZtM (s:Zx):Prop:=Zx.Early s<=Zx.Late s/\-100000<=Zx.Early s/\Zx.Late s<=100000
def ZDu (pl:List Pl) (drv:Bool) (i:Int):Prop:=∃ p,atI pl i=some p/\p.1<0/\p.2.2.2.1=drv
def Zmz (pl:List Pl) (nc:Int) (drv:Bool) (l:List Zg) (k:Nat) (x:Zg):Prop :=
 (0<=Zg.Place x/\Zg.Place x<=(pl.length:Int)-1)/\ZDu pl drv (Zg.Place x)/\(∀ y,0<k->l[k-1]?=some y->Zg.Place y<Zg.Place x)/\
 (0<=Zg.Clock x/\Zg.Clock x<=nc-1)/\ZtM (Zg.Delay x)/\Zdq (Zg.QU x)/\(drv=false->Zx.Early (Zg.QU x)=0/\Zx.Late (Zg.QU x)=0)
def Zj7 (pl:List Pl) (nc:Int) (drv:Bool) (l:List Zg):Prop:=Zfu l (Zmz pl nc drv l)
theorem Zlh (v:ZF) (i:Int) (hn:(ZF.ZC v).length<=1048576):Ju v i=some (tr (0<=i/\i<=((ZF.ZC v).length:Int)-1)):=by
 unfold Ju;rw[show YX (ZF.ZC v)=some ((ZF.ZC v).length:Int) from rfl,Bq,YT (by omega) (by omega)];exact ZdT (QE _ _ _)
theorem ZqF {s:Zx}:(Decidable.decide (Zx.Early s=(0:Int))&&Decidable.decide (Zx.Late s=(0:Int)))=true<->Zx.Early s=0/\Zx.Late s=0:=by simp
theorem Zgu {pl:List Pl} {drv:Bool} {i:Int} {p:Pl} (h:atI pl i=some p):ZDu pl drv i<->¬(0:Int)<=p.1/\(p.2.2.2.1 == drv)=true:=by
 unfold ZDu;rw[h,beq_iff_eq];constructor
 ·rintro ⟨q,q1,q2,q3⟩
  injection q1 with q1
  subst q1;exact ⟨by omega,q3⟩
 ·rintro ⟨q1,q2⟩
  exact ⟨p,rfl,by omega,q2⟩
theorem ZlL {l:List Zg} {k:Nat} {x y:Zg} (hk:0<k) (hy:l[k-1]?=some y):(∀ y,0<k->l[k-1]?=some y->Zg.Place y<Zg.Place x)<->¬Zg.Place x<=Zg.Place y:=by
 constructor
 ·intro h
  have:=h y hk hy;omega
 ·intro h z _ hz
  rw[hy] at hz;injection hz with hz
  subst hz;omega
theorem Zjq {l:List Zg} {k:Nat} {x:Zg} (hk:¬0<k):(∀ y,0<k->l[k-1]?=some y->Zg.Place y<Zg.Place x)<->True:=⟨λ_=>trivial,λ_ y h=>absurd h hk⟩
theorem ZgV (v:ZF) (l:List Zg) (drv:Bool) (nc:Int) (h:sm (.sl Z5) l) (hn:(ZF.ZC v).length<=1048576) (h0:0<=nc) (h1:nc<=1048576):VA v l drv nc=some (tr (Zj7 (ZF.ZC v) nc drv l)):=by
 have hs:=ZH h;have e1:Wq (nc-1)=nc-1:=YT (by omega) (by omega);unfold VA;rw[Vt (Y0 h) (Zmz (ZF.ZC v) nc drv l) (bad:=false) (good:=true)
  (λk x hx hk _=>by
   refine Zym ?_;simp only[Jk,show (k:Int)<(l.length:Int) from by omega,if_true,Zp,hx,Bq,e1];refine Zmw (Q:=Zmz (ZF.ZC v) nc drv l k x) (P:=(0<=Zg.Place x/\Zg.Place x<=((ZF.ZC v).length:Int)-1)/\Zmz (ZF.ZC v) nc drv l k x) (Zjk (Zlh v _ hn) (λhp=>?_)) ⟨λq=>q.2,λq=>⟨q.1,q⟩⟩;obtain ⟨p,hp1,_⟩:=Zgi hp.1 (show Zg.Place x<((ZF.ZC v).length:Int) by omega);rw[hp1,Bq];by_cases hk0:0<k
   ·obtain ⟨y,hy⟩:∃ y,l[k-1]?=some y:=⟨_,List.getElem?_eq_getElem (by omega)⟩
    rw[if_pos (show (0:Int)<(k:Int) by omega),Zi1 (by omega) (by omega),Zp,hy,Bq];cases drv
    ·simp only[Bool.false_eq_true,if_false]
     refine Zmw (Zmx (λ_=>Zzp (λ_=>Zmx (λ_=>Zjk (QE _ _ _) (λ_=>Zjk (Jo _) (λ_=>Zmx (λ_=>Zmx (λ_=>Zzp (λ_=>ZDk))))))))) ?_;unfold Zmz;rw[Zgu hp1,ZlL hk0 hy,ZqF];unfold ZtM Zdq Za4;grind
    ·simp only[if_true]
     refine Zmw (Zmx (λ_=>Zzp (λ_=>Zmx (λ_=>Zjk (QE _ _ _) (λ_=>Zjk (Jo _) (λ_=>Zmx (λ_=>Zmx (λ_=>Zjk (ZgJ _) (λ_=>ZDk))))))))) ?_;unfold Zmz;rw[Zgu hp1,ZlL hk0 hy];unfold ZtM Zdq Za4;grind
   ·rw[if_neg (show ¬(0:Int)<(k:Int) by omega)]
    cases drv
    ·simp only[Bool.false_eq_true,if_false]
     refine Zmw (Zmx (λ_=>Zzp (λ_=>Zjk (QE _ _ _) (λ_=>Zjk (Jo _) (λ_=>Zmx (λ_=>Zmx (λ_=>Zzp (λ_=>ZDk)))))))) ?_;unfold Zmz;rw[Zgu hp1,Zjq hk0,ZqF];unfold ZtM Zdq Za4;grind
    ·simp only[if_true]
     refine Zmw (Zmx (λ_=>Zzp (λ_=>Zjk (QE _ _ _) (λ_=>Zjk (Jo _) (λ_=>Zmx (λ_=>Zmx (λ_=>Zjk (ZgJ _) (λ_=>ZDk)))))))) ?_;unfold Zmz;rw[Zgu hp1,Zjq hk0];unfold ZtM Zdq Za4;grind)
  (λ_=>by simp only[Jk,Int.lt_irrefl,if_false]),ZlC]
 rfl
theorem ZgY (b:Zd) (s:Zu) (l:List Zg) (drv:Bool) (h:sm (.sl Z5) l) (hf:Few (Zd.Design b)) (hc:(Zu.ZM s).length<=1048576):Za1 b s l drv=some (tr (Zj7 (ZC (Zd.Design b)) ((Zu.ZM s).length:Int) drv l)):=by
 have hs:=ZH h;have hpl:=XE hf;have e1:Wq (((Zu.ZM s).length:Int)-1)=((Zu.ZM s).length:Int)-1:=YT (by omega) (by omega);have e2:Wq (((ZC (Zd.Design b)).length:Int)-1)=((ZC (Zd.Design b)).length:Int)-1:=YT (by omega) (by omega);unfold Za1;rw[Xv _ hf,Bq];rw[Vt (Y0 h) (Zmz (ZC (Zd.Design b)) ((Zu.ZM s).length:Int) drv l) (bad:=false) (good:=true)
  (λk x hx hk _=>by
   refine Zym ?_;simp only[Zbx,show (k:Int)<(l.length:Int) from by omega,if_true,Zp,hx,Bq,e1,e2];refine Zmw (Q:=Zmz (ZC (Zd.Design b)) ((Zu.ZM s).length:Int) drv l k x) (P:=(0<=Zg.Place x/\Zg.Place x<=((ZC (Zd.Design b)).length:Int)-1)/\Zmz (ZC (Zd.Design b)) ((Zu.ZM s).length:Int) drv l k x) (Zjk (Q9 _ _ _) (λhp=>?_)) ⟨λq=>q.2,λq=>⟨q.1,q⟩⟩;obtain ⟨p,hp1,_⟩:=Zgi hp.1 (show Zg.Place x<((ZC (Zd.Design b)).length:Int) by omega);rw[hp1];simp only[Bq];by_cases hk0:0<k
   ·obtain ⟨y,hy⟩:∃ y,l[k-1]?=some y:=⟨_,List.getElem?_eq_getElem (by omega)⟩
    rw[if_pos (show (0:Int)<(k:Int) by omega),Zi1 (by omega) (by omega),Zp,hy,Bq];cases drv
    ·simp only[Bool.false_eq_true,if_false]
     refine Zmw (Zmx (λ_=>Zjk (Q9 _ _ _) (λ_=>Zmx (λ_=>Zzp (λ_=>Zmx (λ_=>Zmx (λ_=>Zmx (λ_=>Zjk (ZbG _) (λ_=>Zzp (λ_=>ZDk)))))))))) ?_;unfold Zmz;rw[Zgu hp1,ZlL hk0 hy,ZqF];unfold ZtM Zdq;grind
    ·simp only[if_true]
     refine Zmw (Zmx (λ_=>Zjk (Q9 _ _ _) (λ_=>Zmx (λ_=>Zzp (λ_=>Zmx (λ_=>Zmx (λ_=>Zmx (λ_=>Zjk (ZbG _) (λ_=>ZDk))))))))) ?_;unfold Zmz;rw[Zgu hp1,ZlL hk0 hy];unfold ZtM Zdq;grind
   ·rw[if_neg (show ¬(0:Int)<(k:Int) by omega)]
    cases drv
    ·simp only[Bool.false_eq_true,if_false]
     refine Zmw (Zjk (Q9 _ _ _) (λ_=>Zmx (λ_=>Zzp (λ_=>Zmx (λ_=>Zmx (λ_=>Zmx (λ_=>Zjk (ZbG _) (λ_=>Zzp (λ_=>ZDk))))))))) ?_;unfold Zmz;rw[Zgu hp1,Zjq hk0,ZqF];unfold ZtM Zdq;grind
    ·simp only[if_true]
     refine Zmw (Zjk (Q9 _ _ _) (λ_=>Zmx (λ_=>Zzp (λ_=>Zmx (λ_=>Zmx (λ_=>Zmx (λ_=>Zjk (ZbG _) (λ_=>ZDk)))))))) ?_;unfold Zmz;rw[Zgu hp1,Zjq hk0];unfold ZtM Zdq;grind)
  (λ_=>by simp only[Zbx,Int.lt_irrefl,if_false]),ZlC]
 rfl
theorem ZA8 {s:Zu} (h:sm Vi s):sm (.sl Xh) (Zu.ZM s)/\sm (.sl Z5) (Zu.Jz s)/\sm (.sl Z5) (Zu.ZgF s)/\sm (.sl ZO) (Zu.Exceptions s)/\sm (.sl Yd) (Zu.VE s):=by
 refine ⟨?_,?_,?_,?_,?_⟩;all_goals first | exact h.1 | exact h.2.1 | exact h.2.2.1 | exact h.2.2.2.1 | exact h.2.2.2.2.1
theorem ZCK {l:List Zc} (h:sm (.sl Xh) l):ZDi l:=by
 intro c hc;have:=Zr4 h hc;refine ZhZ ?_;first | exact this.1 | exact this.2.1
def ZmA (pl:List Pl) (s:Zu):Prop :=
 ZgZ (Zu.ZM s)/\(∀ c∈Zu.ZM s,Zc.Place c<(pl.length:Int))/\Zj7 pl ((Zu.ZM s).length:Int) true (Zu.Jz s)/\Zj7 pl ((Zu.ZM s).length:Int) false (Zu.ZgF s)/\
 (Zu.Exceptions s).length<=6/\(∀ e∈Zu.Exceptions s,ZqH pl.length e)/\Zi0 (Zu.VE s)
theorem ZgZ.place {l:List Zc} (h:ZgZ l) {c:Zc} (hc:c∈l):0<=Zc.Place c:=by
 obtain ⟨k,hk⟩:=List.mem_iff_getElem?.1 hc;have h1:=h.2.1 k c (by have:=(List.getElem?_eq_some_iff.1 hk).1;omega) hk;unfold Zhz Zlw at h1;simp only[Bool.and_eq_true,decide_eq_true_eq] at h1;exact h1.1.1.1.1.1
theorem Zra (v:ZF) (s:Zu) (h:sm Vi s) (hn:(ZF.ZC v).length<=1048576):ZcV v s=some (tr (ZmA (ZF.ZC v) s)):=by
 obtain ⟨a1,a2,a3,a4,a5⟩:=ZA8 h;have s1:=ZH a1;unfold ZcV;rw[show ZbU (Zu.ZM s)=some ((Zu.ZM s).length:Int) from rfl,Bq];refine ZgH (YR (ZpU _) (λhC=>Zxn (P:=¬∀ c∈Zu.ZM s,Zc.Place c<((ZF.ZC v).length:Int)) ?_ (λ_=>YR (ZgV v _ true _ a2 hn (by omega) (by omega)) (λ_=>YR (ZgV v _ false _ a3 hn (by omega) (by omega)) (λ_=>Zhw (λ_=>Zxn (P:=¬∀ e∈Zu.Exceptions s,ZqH (ZF.ZC v).length e) ?_ (λ_=>(?_:_=some (tr (Zi0 (Zu.VE s))))))))))) ?_
 ·rw[QD (Y0 a1) (λc=>!tr (0<=Zc.Place c/\Zc.Place c<=((ZF.ZC v).length:Int)-1)) (λc _=>by
   unfold Jd;show (Ju v (Zc.Place c)).bind _=_;rw[Zlh v _ hn];rfl)]
  refine Zcd ?_;rw[List.any_eq_true];constructor
  ·rintro ⟨c,hc,hb⟩ hall
   have:=hall c hc;have h0:=hC.place hc;rw[ZR (by omega)] at hb;cases hb
  ·intro hh
   apply Classical.byContradiction;intro hne;refine hh (λc hc=>?_);apply Classical.byContradiction;intro hlt;exact hne ⟨c,hc,by rw[ZP (by omega)];rfl⟩
 ·rw[XZ (Y0 a4) (λe=>!tr (ZqH (ZF.ZC v).length e)) (λe he=>by
   unfold Je;show (VR v e).bind _=_;rw[Zi8 v e (Zr4 a4 he) hn];rfl)]
  refine Zcd ?_;rw[List.any_eq_true];constructor
  ·rintro ⟨c,hc,hb⟩ hall
   rw[ZR (hall c hc)] at hb;cases hb
  ·intro hh
   apply Classical.byContradiction;intro hne;refine hh (λc hc=>?_);apply Classical.byContradiction;intro hlt;exact hne ⟨c,hc,by rw[ZP hlt];rfl⟩
 ·by_cases h0:(Zu.VE s).length=0
  ·rw[if_pos (by omega)]
   refine Zcd ⟨λ_=>?_,λ_=>rfl⟩;have:Zu.VE s=[]:=List.eq_nil_of_length_eq_zero h0;rw[this];exact ⟨by simp,λc hc=>(by cases hc),λj _ hj=>(by simp at hj)⟩
  ·rw[if_neg (by omega),ZlW _ a5 h0];rfl
 ·unfold ZmA
  simp only[Classical.not_not];constructor
  ·rintro ⟨q1,q2,q3,q4,q5,q6,q7⟩;exact ⟨q1,q2,q3,q4,by omega,q6,q7⟩
  ·rintro ⟨q1,q2,q3,q4,q5,q6,q7⟩;exact ⟨q1,q2,q3,q4,by omega,q6,q7⟩
def ZqI (b:Zd) (s:Zu):Prop:=Zmy b/\ZmA (ZC (Zd.Design b)) s
theorem Zq4 (b:Zd) (s:Zu) (hb:sm YA b) (hs:sm Vi s):Zgl b s=some (tr (ZqI b s)):=by
 unfold Zgl;refine YR (ZhD b hb) (λhB=>?_);obtain ⟨v,h1,h2,_⟩:=ZwU ⟨hB,hb⟩;have hpl:=XE hB.1.few;rw[h1,Bq,Zra v s hs (by rw[h2];omega),h2];rfl
theorem Zr6 (b:Zd) (s:Zu) (hb:sm YA b) (hs:sm Vi s):ZiG b s=some (tr (ZqI b s)):=by
 obtain ⟨a1,a2,a3,a4,a5⟩:=ZA8 hs;have s1:=ZH a1;have s4:=ZH a4;unfold ZiG;refine ZgH (YR (Zfa b hb) (λhB=>YR (Zql _ (ZCK a1) (by omega)) (λhC=>Zhw (λ_=>YR (Zoq _ a5) (λ_=>(?_:_=some (tr (Zfu (Zu.ZM s) (λ_ c=>Zc.Place c<((ZC (Zd.Design b)).length:Int))/\Zfu (Zu.Exceptions s) (λ_ e=>ZqH (ZC (Zd.Design b)).length e)/\Zj7 (ZC (Zd.Design b)) ((Zu.ZM s).length:Int) true (Zu.Jz s)/\Zj7 (ZC (Zd.Design b)) ((Zu.ZM s).length:Int) false (Zu.ZgF s))))))))) ?_
 ·have hf:=hB.1.few
  have hpl:=XE hf;rw[Vt (Y0 a1) (λ_ c=>Zc.Place c<((ZC (Zd.Design b)).length:Int)) (bad:=false) (good:=tr (Zfu (Zu.Exceptions s) (λ_ e=>ZqH (ZC (Zd.Design b)).length e)/\Zj7 (ZC (Zd.Design b)) ((Zu.ZM s).length:Int) true (Zu.Jz s)/\Zj7 (ZC (Zd.Design b)) ((Zu.ZM s).length:Int) false (Zu.ZgF s)))
   (λk c hx hk _=>by
    simp only[Zfe,show (k:Int)<((Zu.ZM s).length:Int) from by omega,if_true,Zp,hx,Bq,Xv _ hf];constructor
    ·intro hh;rw[if_neg (by omega)]
    ·intro hh;rw[if_pos (by omega)])
   (λ_=>by
    simp only[Zfe,Int.lt_irrefl,if_false];rw[Vt (Y0 a4) (λ_ e=>ZqH (ZC (Zd.Design b)).length e) (bad:=.inr false) (good:=.inr (tr (Zj7 (ZC (Zd.Design b)) ((Zu.ZM s).length:Int) true (Zu.Jz s)/\Zj7 (ZC (Zd.Design b)) ((Zu.ZM s).length:Int) false (Zu.ZgF s))))
     (λk e hx hk _=>by
      simp only[Zfd,show (k:Int)<((Zu.Exceptions s).length:Int) from by omega,if_true,Zp,hx,Bq,Zng b ⟨hB,hb⟩ e (ZiF a4 hx)];constructor
      ·intro hh;rw[if_pos (ZR hh)]
      ·intro hh;rw[if_neg (λq=>hh ((Xx _).1 q))])
     (λ_=>by
      simp only[Zfd,Int.lt_irrefl,if_false,ZgY b s _ _ a2 hf s1,ZgY b s _ _ a3 hf s1,Bq];by_cases q1:Zj7 (ZC (Zd.Design b)) ((Zu.ZM s).length:Int) true (Zu.Jz s)
      ·rw[if_pos (ZR q1)]
       congr 3;exact Vk ⟨λq=>⟨q1,q⟩,λq=>q.2⟩
      ·rw[if_neg (λq=>q1 ((Xx _).1 q)),ZP (λq=>q1 q.1)])]
    congr 1;by_cases q1:Zfu (Zu.Exceptions s) (λ_ e=>ZqH (ZC (Zd.Design b)).length e)
    ·rw[XI q1]
     congr 1;exact Vk ⟨λq=>⟨q1,q⟩,λq=>q.2⟩
    ·rw[Xe q1,ZP (λq=>q1 q.1)]),Ze9]
 ·unfold ZqI ZmA
  rw[JK,JK];constructor
  ·rintro ⟨q1,q2,q3,q4,q5,q6,q7,q8⟩;exact ⟨q1,q2,q5,q7,q8,by omega,q6,q4⟩
  ·rintro ⟨q1,q2,q5,q7,q8,q3,q6,q4⟩;exact ⟨q1,q2,by omega,q4,q5,q6,q7,q8⟩
structure ZkV {α:Type} (key:α->Int) (A B:List α):Prop where
 mem:∀ x,x∈A<->x∈B
 inc:Zdp key B
 nod:(A.map key).Nodup
 prs:∀ p:Int,(∃ x∈B,key x=2*p)<->∃ x∈B,key x=2*p+1
 len:A.length=B.length
theorem ZkV.nil {α:Type} (key:α->Int):ZkV key [] [] :=
 ⟨λx=>Iff.rfl,List.Pairwise.nil,List.nodup_nil,λp=>by simp,rfl⟩
theorem Zy4 {α:Type} (key:α->Int) (l:List α) (a b:α):(ZpJ key l a b).length=l.length+2:=by
 unfold ZpJ;have:=Zpk key (key a) l;simp only[List.length_append,List.length_cons,List.length_take,List.length_drop];omega
theorem ZkV.add {α:Type} {key:α->Int} {A B:List α} (h:ZkV key A B) {a b:α} {p:Int} (ha:key a=2*p) (hb:key b=2*p+1) (hn:¬∃ x∈B,key x=2*p):ZkV key (A++[a,b]) (ZpJ key B a b):=by
 have hn2:¬∃ x∈B,key x=2*p+1:=λq=>hn ((h.prs p).2 q);have off:∀ x∈B,key x<key a\/key b<key x:=λx hx=>by
  have h1:key x≠2*p:=λe=>hn ⟨x,hx,e⟩;have h2:key x≠2*p+1:=λe=>hn2 ⟨x,hx,e⟩;omega
 refine ⟨λx=>?_,Zy3 h.inc (by omega) off,?_,λq=>?_,?_⟩
 ·rw[List.mem_append,Zex,h.mem x]
  simp only[List.mem_cons,List.not_mem_nil,or_false];constructor
  ·rintro (w | w | w)
   ·exact .inr (.inr w)
   ·exact .inl w
   ·exact .inr (.inl w)
  ·rintro (w | w | w)
   ·exact .inr (.inl w)
   ·exact .inr (.inr w)
   ·exact .inl w
 ·rw[List.map_append,List.nodup_append]
  refine ⟨h.nod,?_,?_⟩
  ·simp only[List.map_cons,List.map_nil,List.nodup_cons,List.mem_cons,List.not_mem_nil,or_false,not_false_eq_true,List.nodup_nil,and_true]
   omega
  ·intro x hx y hy
   obtain ⟨z,hz,rfl⟩:=List.mem_map.1 hx;have:=off z ((h.mem z).1 hz);simp only[List.map_cons,List.map_nil,List.mem_cons,List.not_mem_nil,or_false] at hy;rcases hy with rfl | rfl<;>omega
 ·have hq:=h.prs q
  constructor
  ·rintro ⟨x,hx,e⟩
   rcases Zex.1 hx with rfl | rfl | hx
   ·exact ⟨b,Zex.2 (.inr (.inl rfl)),by omega⟩
   ·omega
   ·obtain ⟨y,hy,e2⟩:=hq.1 ⟨x,hx,e⟩
    exact ⟨y,Zex.2 (.inr (.inr hy)),e2⟩
  ·rintro ⟨x,hx,e⟩
   rcases Zex.1 hx with rfl | rfl | hx
   ·omega
   ·exact ⟨a,Zex.2 (.inl rfl),by omega⟩
   ·obtain ⟨y,hy,e2⟩:=hq.2 ⟨x,hx,e⟩
    exact ⟨y,Zex.2 (.inr (.inr hy)),e2⟩
 ·rw[List.length_append,Zy4,h.len]
  rfl
theorem ZkV.perm {α:Type} {key:α->Int} {A B:List α} (h:ZkV key A B):B.Perm A:=by
 have hA:A.Nodup:=List.Pairwise.of_map key (λa b q e=>q (by rw[e])) h.nod;have hB:B.Nodup:=h.inc.imp λ{x y} q e=>by rw[e] at q;omega
 exact (List.perm_ext_iff_of_nodup hB hA).2 λx=>(h.mem x).symm
def Zxh {α:Type} (key:α->Int) (q:α×α):Prop:=∃ p,key q.1=2*p/\key q.2=2*p+1
def ZhC {α:Type} (key:α->Int) (n:Int) (l:List α):Bool:=l.any λx=>decide (key x=n)
theorem Zhr {α:Type} {key:α->Int} {n:Int} {l:List α}:ZhC key n l=true<->∃ x∈l,key x=n:=by
 unfold ZhC;rw[List.any_eq_true];constructor
 ·rintro ⟨x,h1,h2⟩;exact ⟨x,h1,of_decide_eq_true h2⟩
 ·rintro ⟨x,h1,h2⟩;exact ⟨x,h1,decide_eq_true h2⟩
def Zu4 {α:Type} (key:α->Int) (A:List α) (q:α×α):List α:=if ZhC key (key q.1) A=true then A else A++[q.1,q.2]
def Zy2 {α:Type} (key:α->Int) (B:List α) (q:α×α):List α:=if ZhC key (key q.1) B=true then B else ZpJ key B q.1 q.2
theorem ZkV.step {α:Type} {key:α->Int} {A B:List α} (h:ZkV key A B) {q:α×α} (hq:Zxh key q):ZkV key (Zu4 key A q) (Zy2 key B q):=by
 obtain ⟨p,h1,h2⟩:=hq;have e:ZhC key (key q.1) A=true<->ZhC key (key q.1) B=true:=by
  rw[Zhr,Zhr];constructor
  ·rintro ⟨x,hx,q⟩;exact ⟨x,(h.mem x).1 hx,q⟩
  ·rintro ⟨x,hx,q⟩;exact ⟨x,(h.mem x).2 hx,q⟩
 unfold Zu4 Zy2;by_cases c:ZhC key (key q.1) B=true
 ·rw[if_pos c,if_pos (e.2 c)];exact h
 ·rw[if_neg c,if_neg (λz=>c (e.1 z))]
  exact h.add h1 h2 (λz=>c (Zhr.2 (by rw[h1];exact z)))
theorem ZBF {α:Type} (key:α->Int) (A:List α) (q:α×α):(Zu4 key A q).length<=A.length+2:=by
 unfold Zu4;split
 ·omega
 ·rw[List.length_append];exact Nat.le_refl _
theorem Zpt {α β:Type} {key:α->Int} {g:Nat->β->α×α}:∀ (l:List β) (m:Nat) {A B:List α},ZkV key A B->(∀ k x,l[k]?=some x->Zxh key (g (m+k) x))->
  ZkV key (Qe (λk x s=>Zu4 key s (g k x)) m l A) (Qe (λk x s=>Zy2 key s (g k x)) m l B)
 | [],_,_,_,h,_=>h
 | x::l,m,A,B,h,hg=>by
  simp only[Qe];refine Zpt l (m+1) (h.step (hg 0 x rfl)) (λk y hy=>?_);rw[show m+1+k=m+(k+1) by omega];exact hg (k+1) y (by rw[List.getElem?_cons_succ];exact hy)
theorem Zjo {α β:Type} {key:α->Int} {g:Nat->β->α×α}:∀ (l:List β) (m:Nat) (A:List α),(Qe (λk x s=>Zu4 key s (g k x)) m l A).length<=A.length+2*l.length
 | [],_,A=>by simp[Qe]
 | x::l,m,A=>by
  simp only[Qe];have h1:=Zjo (key:=key) (g:=g) l (m+1) (Zu4 key A (g m x));have h2:=ZBF key A (g m x);rw[List.length_cons];omega
theorem ZGl {α:Type} {key:α->Int} {K:Int} {l:List α} {k:Nat} {x:α} (hk:k<Zax key K l) (hx:l[k]?=some x):key x<K :=
 Zm9 key K l x (List.mem_of_getElem? (i:=k) (by rw[List.getElem?_take,if_pos hk];exact hx))
theorem ZD2 {α:Type} {key:α->Int} {K:Int} {l:List α} {x:α} (hl:Zdp key l) (hx:l[Zax key K l]?=some x):K<=key x :=
 Zlu hl x (List.mem_of_getElem? (i:=0) (by rw[List.getElem?_drop,Nat.add_zero];exact hx))
theorem Zsc {l:List Zj} {a b:Zj} (hi:Zdp Zj.Node l) (hl:l.length<=1000000):Zen l a b=some (Zy2 Zj.Node l (a,b)):=by
 have hp:=Zpk Zj.Node (Zj.Node a) l;have low:∀ (k:Nat) (x:Zj),k<Zax Zj.Node (Zj.Node a) l->l[k]?=some x->Zj.Node x<Zj.Node a:=λk x=>ZGl;have high:∀ x:Zj,l[Zax Zj.Node (Zj.Node a) l]?=some x->Zj.Node a<=Zj.Node x:=λx=>ZD2 hi;have has:=ZrT (k:=Zj.Node a) hi;have hput:Zy2 Zj.Node l (a,b)=if ZhC Zj.Node (Zj.Node a) l=true then l else l.take (Zax Zj.Node (Zj.Node a) l)++a::b::l.drop (Zax Zj.Node (Zj.Node a) l):=rfl;generalize Zax Zj.Node (Zj.Node a) l=p at hp low high has hput;unfold Zen;refine Yb p (λk v=>v=((k:Int),())) _ rfl ?_ ?_
 ·rintro k _ hk rfl
  have hx:l[k]?=some (l[k]'(by omega)):=List.getElem?_eq_getElem _;have h1:=low k _ hk hx;generalize l[k]'(by omega)=x at hx h1;simp only[Zc5,show (k:Int)<(l.length:Int) from by omega,if_true,Zp,hx,Bq];rw[if_pos h1,Xm (by omega)];exact .inl ⟨_,rfl,rfl⟩
 ·rintro _ rfl
  have hd:List.take (l.length-p) (List.drop p l)=List.drop p l:=List.take_of_length_le (by rw[List.length_drop];omega);by_cases c:p<l.length
  ·have hx:l[p]?=some (l[p]'c):=List.getElem?_eq_getElem _
   generalize l[p]'c=x at hx;have h1:=high x hx;simp only[Zc5,show (p:Int)<(l.length:Int) from by omega,if_true,Zp,hx,Bq];rw[if_neg (by omega)];by_cases e:Zj.Node x=Zj.Node a
   ·rw[if_pos e,hput,if_pos (Zhr.2 (has.2 ⟨x,hx,e⟩))]
   ·rw[if_neg e,hput,if_neg (λq=>by
     obtain ⟨y,hy,e2⟩:=has.1 (Zhr.1 q);rw[hx] at hy;injection hy with hy
     subst hy;exact e e2)]
    simp only[Int.toNat_natCast,show Int.toNat (0:Int)=0 from rfl,Nat.sub_zero,List.drop_zero,List.nil_append,hd];rw[Zh (by omega),Zh (by omega),Zh (Int.le_refl _),Zh (by simp only[List.length_cons,List.length_nil,List.length_drop];omega),Zh (by simp only[List.length_nil,List.length_take];omega),Zh (by simp only[List.length_cons,List.length_nil,List.length_drop,List.length_take,List.length_append];omega)];rfl
  ·simp only[Zc5,show ¬(p:Int)<(l.length:Int) from by omega,if_false]
   rw[hput,if_neg (λq=>by
     obtain ⟨y,hy,e2⟩:=has.1 (Zhr.1 q);have:=(List.getElem?_eq_some_iff.1 hy).1;omega)]
   simp only[Int.toNat_natCast,show Int.toNat (0:Int)=0 from rfl,Nat.sub_zero,List.drop_zero,List.nil_append,hd];rw[Zh (by omega),Zh (by omega),Zh (Int.le_refl _),Zh (by simp only[List.length_cons,List.length_nil,List.length_drop];omega),Zh (by simp only[List.length_nil,List.length_take];omega),Zh (by simp only[List.length_cons,List.length_nil,List.length_drop,List.length_take,List.length_append];omega)];rfl
def cpr (l:List Zc) (k:Nat) (c:Zc):Zj×Zj :=
  ((2*Zc.Place c,(Wq ((Zh1 l (k:Int)).rise+Zc.Yx c),Wq ((Zh1 l (k:Int)).rise+Zc.Xt c),()),((0:Int),(0:Int),()),()),
   (2*Zc.Place c+1,(Wq ((Zh1 l (k:Int)).fall+Zc.Yx c),Wq ((Zh1 l (k:Int)).fall+Zc.Xt c),()),((0:Int),(0:Int),()),()))
def ipr (l:List Zc) (k:Nat) (x:Zg):Zj×Zj :=
  ((2*Zg.Place x,(Wq ((Zh1 l (Zg.Clock x)).rise+Zx.Early (Zg.Delay x)),Wq ((Zh1 l (Zg.Clock x)).rise+Zx.Late (Zg.Delay x)),()),x.2.2.2),
   (2*Zg.Place x+1,(Wq ((Zh1 l (Zg.Clock x)).rise+Zx.Early (Zg.Delay x)),Wq ((Zh1 l (Zg.Clock x)).rise+Zx.Late (Zg.Delay x)),()),x.2.2.2))
theorem ZF5 (l:List Zc) (k:Nat) (c:Zc):Zxh Zj.Node (cpr l k c):=⟨Zc.Place c,rfl,rfl⟩
theorem ZGe (l:List Zc) (k:Nat) (x:Zg):Zxh Zj.Node (ipr l k x):=⟨Zg.Place x,rfl,rfl⟩
theorem Zow {s:Zu} {pl:List Pl} (h:ZmA pl s) {k:Nat} {c:Zc} (hc:(Zu.ZM s)[k]?=some c):ZvJ (Zu.ZM s) (k:Int)/\0<=Zc.Place c/\Zc.Place c<(pl.length:Int):=by
 have hk:=(List.getElem?_eq_some_iff.1 hc).1;exact ⟨Zye h.1 (by omega) (by omega),ZgZ.place h.1 (List.mem_of_getElem? hc),h.2.1 c (List.mem_of_getElem? hc)⟩
theorem Ztm {s:Zu} {pl:List Pl} (h:ZmA pl s) {k:Nat} {x:Zg} (hx:(Zu.Jz s)[k]?=some x):ZvJ (Zu.ZM s) (Zg.Clock x)/\0<=Zg.Place x/\Zg.Place x<(pl.length:Int):=by
 have e:=h.2.2.1 k x hx;exact ⟨Zye h.1 e.2.2.2.1.1 (by have:=e.2.2.2.1.2;omega),e.1.1,by have:=e.1.2;omega⟩
theorem ZoK {pl:List Pl} {nc:Int} {drv:Bool} {l:List Zg} (h:Zj7 pl nc drv l):l.length<=pl.length:=by
 have:∀ (k:Nat) (x:Zg),l[k]?=some x->(k:Int)<=Zg.Place x:=by
  intro k;induction k with
  | zero=>intro x hx;have:=(h 0 x hx).1.1;omega
  | succ k ih =>
   intro x hx;have hlt:=(List.getElem?_eq_some_iff.1 hx).1;have hy:l[k]?=some l[k]:=List.getElem?_eq_getElem (by omega);have h1:=ih _ hy;have h2:=(h (k+1) x hx).2.2.1 l[k] (by omega) (by rw[Nat.add_sub_cancel];exact hy);omega
 rcases Nat.eq_zero_or_pos l.length with h0 | h0
 ·omega
 ·have hy:l[l.length-1]?=some l[l.length-1]:=List.getElem?_eq_getElem (by omega)
  have h1:=this _ _ hy;have h2:=(h _ _ hy).1.2;omega
theorem ZqQ {s:Zu} {pl:List Pl} (h:ZmA pl s) (hpl:pl.length<=100) {k:Nat} {c:Zc} (hc:(Zu.ZM s)[k]?=some c):ZcU (Zu.ZM s) (k:Int)=some [(cpr (Zu.ZM s) k c).1,(cpr (Zu.ZM s) k c).2]:=by
 obtain ⟨h1,h2,h3⟩:=Zow h hc;unfold ZcU;rw[Zp,hc,Bq,ZiR h1,Bq];refine (Y1 (v':=([(cpr (Zu.ZM s) k c).1],(1:Int),())) ?_).trans ((Y1 (v':=([(cpr (Zu.ZM s) k c).1,(cpr (Zu.ZM s) k c).2],(2:Int),())) ?_).trans (YI ?_))
 ·show XF c (wvI (Zh1 (Zu.ZM s) (k:Int))) [] 0=_
  unfold XF;rw[if_pos (by decide)];show (some (Zh1 (Zu.ZM s) (k:Int)).rise).bind _=_;rw[Bq,Zh (by simp only[List.length_cons,List.length_nil];omega),YT (n:=2*Zc.Place c) (by omega) (by omega),Int.add_zero,YT (n:=2*Zc.Place c) (by omega) (by omega)];rfl
 ·show XF c (wvI (Zh1 (Zu.ZM s) (k:Int))) [(cpr (Zu.ZM s) k c).1] 1=_
  unfold XF;rw[if_pos (by decide)];show (some (Zh1 (Zu.ZM s) (k:Int)).fall).bind _=_;rw[Bq,Zh (by simp only[List.length_cons,List.length_nil];omega),YT (n:=2*Zc.Place c) (by omega) (by omega),YT (n:=2*Zc.Place c+1) (by omega) (by omega)];rfl
 ·show XF c (wvI (Zh1 (Zu.ZM s) (k:Int))) [(cpr (Zu.ZM s) k c).1,(cpr (Zu.ZM s) k c).2] 2=_
  unfold XF;rw[if_neg (by decide)]
theorem Zv0 {l:List Zj} (hl:Len l) (n:Int):∃ r,VO l n=some (r,ZhC Zj.Node n l):=by
 unfold VO;rw[Y9 hl (λx=>decide (Zj.Node x=n)) (λx _=>rfl),Bq];have h1:=Zz5 (p:=λx=>decide (Zj.Node x=n)) (l:=l);have h2:=VL (p:=λx=>decide (Zj.Node x=n)) (l:=l);by_cases c:0<=Za5 (λx=>decide (Zj.Node x=n)) l
 ·obtain ⟨x,hx,_⟩:=Zme c h1
  rw[if_pos c,hx,Bq];exact ⟨x,by rw[show ZhC Zj.Node n l=true from h2.1 c]⟩
 ·rw[if_neg c]
  refine ⟨((0:Int),((0:Int),(0:Int),()),((0:Int),(0:Int),()),()),?_⟩;rw[show ZhC Zj.Node n l=false from by
   cases q:ZhC Zj.Node n l with
   | false=>rfl
   | true=>exact absurd (h2.2 q) c]
noncomputable def ZuN (s:Zu):List Zj:=Qe (λk x a=>Zu4 Zj.Node a (cpr (Zu.ZM s) k x)) 0 (Zu.ZM s) []
noncomputable def ZGF (s:Zu):List Zj:=Qe (λk x a=>Zu4 Zj.Node a (ipr (Zu.ZM s) k x)) 0 (Zu.Jz s) (ZuN s)
noncomputable def Zzf (s:Zu):List Zj:=Qe (λk x a=>Zy2 Zj.Node a (cpr (Zu.ZM s) k x)) 0 (Zu.ZM s) []
noncomputable def Zv7 (s:Zu):List Zj:=Qe (λk x a=>Zy2 Zj.Node a (ipr (Zu.ZM s) k x)) 0 (Zu.Jz s) (Zzf s)
theorem ZGw (s:Zu) (n:Nat):ZkV Zj.Node (Qe (λk x a=>Zu4 Zj.Node a (cpr (Zu.ZM s) k x)) 0 ((Zu.ZM s).take n) []) (Qe (λk x a=>Zy2 Zj.Node a (cpr (Zu.ZM s) k x)) 0 ((Zu.ZM s).take n) []) :=
 Zpt (g:=λk x=>cpr (Zu.ZM s) k x) _ 0 (ZkV.nil _) (λk x _=>ZF5 _ _ _)
theorem ZGx (s:Zu):ZkV Zj.Node (ZuN s) (Zzf s):=by
 have:=ZGw s (Zu.ZM s).length;rw[List.take_length] at this;exact this
theorem ZGy (s:Zu) (n:Nat):ZkV Zj.Node (Qe (λk x a=>Zu4 Zj.Node a (ipr (Zu.ZM s) k x)) 0 ((Zu.Jz s).take n) (ZuN s)) (Qe (λk x a=>Zy2 Zj.Node a (ipr (Zu.ZM s) k x)) 0 ((Zu.Jz s).take n) (Zzf s)) :=
 Zpt (g:=λk x=>ipr (Zu.ZM s) k x) _ 0 (ZGx s) (λk x _=>ZGe _ _ _)
theorem ZA1 (s:Zu):ZkV Zj.Node (ZGF s) (Zv7 s):=by
 have:=ZGy s (Zu.Jz s).length;rw[List.take_length] at this;exact this
theorem len1 {s:Zu} {pl:List Pl} (h:ZmA pl s) (n:Nat):(Qe (λk x a=>Zu4 Zj.Node a (cpr (Zu.ZM s) k x)) 0 ((Zu.ZM s).take n) []).length<=12:=by
 have:=Zjo (key:=Zj.Node) (g:=λk x=>cpr (Zu.ZM s) k x) ((Zu.ZM s).take n) 0 [];rw[List.length_take,List.length_nil] at this;have:=h.1.1;omega
theorem ZKt {s:Zu} {pl:List Pl} (h:ZmA pl s):(ZuN s).length<=12:=by
 have:=len1 h (Zu.ZM s).length;rw[List.take_length] at this;exact this
theorem len2 {s:Zu} {pl:List Pl} (h:ZmA pl s) (hpl:pl.length<=100) (n:Nat):(Qe (λk x a=>Zu4 Zj.Node a (ipr (Zu.ZM s) k x)) 0 ((Zu.Jz s).take n) (ZuN s)).length<=212:=by
 have:=Zjo (key:=Zj.Node) (g:=λk x=>ipr (Zu.ZM s) k x) ((Zu.Jz s).take n) 0 (ZuN s);rw[List.length_take] at this;have:=ZoK h.2.2.1;have:=ZKt h;omega
theorem Zu5 {A:List Zj} {q:Zj×Zj} {r:Bool} {v:Int} (hr:r=ZhC Zj.Node (Zj.Node q.1) A) (hl:A.length<=1000000):(if r=true then some (Sum.inl (Wq (v+1),A,())) else Zy ((A.length+[q.1,q.2].length)*40<=140737488355328) (some (.inl (Wq (v+1),A++[q.1,q.2],()))):Option ((Int×List Zj×Unit) ⊕ List Zj))=some (.inl (Wq (v+1),Zu4 Zj.Node A q,())):=by
 subst hr;unfold Zu4;by_cases c:ZhC Zj.Node (Zj.Node q.1) A=true
 ·rw[if_pos c,if_pos c]
 ·rw[if_neg c,if_neg c,Zh (by simp only[List.length_cons,List.length_nil];omega)]
theorem ZoI {s:Zu} {pl:List Pl} (h:ZmA pl s) (hpl:pl.length<=100):Zdv s=some (Zv7 s):=by
 have hfew:=ZoK h.2.2.1;have h6:=h.1.1;unfold Zdv;refine ZbI (l:=Zu.ZM s) (by unfold Len;omega) (λa i=>(i,a,())) (f:=λk x a=>Zu4 Zj.Node a (cpr (Zu.ZM s) k x)) (s0:=[]) (λ_ _=>True) trivial (λk c A hc _ hA=>⟨?_,trivial⟩) (λA _ hA=>?_)
 ·have hk:=(List.getElem?_eq_some_iff.1 hc).1
  have hl:A.length<=12:=by rw[hA];exact len1 h k
  obtain ⟨r,hr⟩:=Zv0 (l:=A) (by unfold Len;omega) (Zj.Node (cpr (Zu.ZM s) k c).1);show Jb s (k:Int) A=_;unfold Jb;rw[if_pos (by omega),ZqQ h hpl hc,Bq];show (VO A (Zj.Node (cpr (Zu.ZM s) k c).1)).bind _=_;rw[hr,Bq];exact Zu5 (q:=cpr (Zu.ZM s) k c) rfl (by omega)
 ·have eA:A=ZuN s:=hA
  subst eA;show Jb s ((Zu.ZM s).length:Int) (ZuN s)=_;unfold Jb;rw[if_neg (Int.lt_irrefl _)];refine ZbI (l:=Zu.Jz s) (by unfold Len;omega) (λa i=>(i,a,())) (f:=λk x a=>Zu4 Zj.Node a (ipr (Zu.ZM s) k x)) (s0:=ZuN s) (λ_ _=>True) trivial (λk x A hx _ hA=>⟨?_,trivial⟩) (λA _ hA=>?_)
  ·have hk:=(List.getElem?_eq_some_iff.1 hx).1
   have hl:A.length<=212:=by rw[hA];exact len2 h hpl k
   obtain ⟨w1,w2,w3⟩:=Ztm h hx;obtain ⟨r,hr⟩:=Zv0 (l:=A) (by unfold Len;omega) (Zj.Node (ipr (Zu.ZM s) k x).1);show Ja s (k:Int) A=_;unfold Ja;rw[if_pos (by omega),Zp,hx,Bq,ZiR w1,Bq];show (some (Zh1 (Zu.ZM s) (Zg.Clock x)).rise).bind _=_;rw[Bq,YT (n:=2*Zg.Place x) (by omega) (by omega),YT (n:=2*Zg.Place x+1) (by omega) (by omega),Int.add_comm (Zx.Early (Zg.Delay x)),Int.add_comm (Zx.Late (Zg.Delay x))];show (some (ipr (Zu.ZM s) k x).1).bind _=_;rw[Bq];show (VO A (Zj.Node (ipr (Zu.ZM s) k x).1)).bind _=_;rw[hr,Bq];have:=Zu5 (A:=A) (q:=ipr (Zu.ZM s) k x) (v:=(k:Int)) rfl (by omega);by_cases c:ZhC Zj.Node (Zj.Node (ipr (Zu.ZM s) k x).1) A=true
   ·rw[if_pos c] at this ⊢
    injection this with this
    injection this with this
    exact congrArg (λz=>some (Sum.inl z)) this
   ·rw[if_neg c] at this ⊢
    rw[Zh (by simp only[List.length_cons,List.length_nil];omega)] at this;rw[Zh (by simp only[List.length_cons,List.length_nil];omega)];injection this with this
    injection this with this
    exact congrArg (λz=>some (Sum.inl z)) this
  ·have eA:A=ZGF s:=hA
   subst eA;show Ja s ((Zu.Jz s).length:Int) (ZGF s)=_;unfold Ja;rw[if_neg (Int.lt_irrefl _)];have hl:=len2 h hpl (Zu.Jz s).length;rw[List.take_length] at hl;have hS:=ZA1 s;rw[(Ztp (key:=λx=>Zj.Node x)).2 ⟨hS.perm,hS.inc,by have:(ZGF s).length<=212:=hl;omega⟩];rfl
theorem Zse {s:Zu} {pl:List Pl} (h:ZmA pl s) (hpl:pl.length<=100):Zfq s=some (Zv7 s):=by
 have hfew:=ZoK h.2.2.1;have h6:=h.1.1;unfold Zfq;refine ZbI (l:=Zu.ZM s) (by unfold Len;omega) (λa i=>(a,i,())) (f:=λk x a=>Zy2 Zj.Node a (cpr (Zu.ZM s) k x)) (s0:=[]) (λ_ _=>True) trivial (λk c B hc _ hB=>⟨?_,trivial⟩) (λB _ hB=>?_)
 ·have hk:=(List.getElem?_eq_some_iff.1 hc).1
  have hS:=ZGw s k;rw[<-hB] at hS;have hl:=hS.len;have hl2:=len1 h k;obtain ⟨w1,w2,w3⟩:=Zow h hc;show VW s B (k:Int)=_;unfold VW;rw[if_pos (by omega),Zp,hc,Bq,Zj1 w1,Bq,YT (n:=2*Zc.Place c) (by omega) (by omega),YT (n:=2*Zc.Place c+1) (by omega) (by omega)];show (Zen B (cpr (Zu.ZM s) k c).1 (cpr (Zu.ZM s) k c).2).bind _=_;rw[Zsc hS.inc (by omega)];rfl
 ·have eB:B=Zzf s:=hB
  subst eB;show VW s (Zzf s) ((Zu.ZM s).length:Int)=_;unfold VW;rw[if_neg (Int.lt_irrefl _)];refine ZbI (l:=Zu.Jz s) (by unfold Len;omega) (λa i=>(a,i,())) (f:=λk x a=>Zy2 Zj.Node a (ipr (Zu.ZM s) k x)) (s0:=Zzf s) (λ_ _=>True) trivial (λk x B hx _ hB=>⟨?_,trivial⟩) (λB _ hB=>?_)
  ·have hk:=(List.getElem?_eq_some_iff.1 hx).1
   have hS:=ZGy s k;rw[<-hB] at hS;have hl:=hS.len;have hl2:=len2 h hpl k;obtain ⟨w1,w2,w3⟩:=Ztm h hx;show VU s B (k:Int)=_;unfold VU;rw[if_pos (by omega),Zp,hx,Bq,Zj1 w1,Bq,YT (n:=2*Zg.Place x) (by omega) (by omega),YT (n:=2*Zg.Place x+1) (by omega) (by omega)];show (Zen B (ipr (Zu.ZM s) k x).1 (ipr (Zu.ZM s) k x).2).bind _=_;rw[Zsc hS.inc (by omega)];rfl
  ·have eB:B=Zv7 s:=hB
   subst eB;show VU s (Zv7 s) ((Zu.Jz s).length:Int)=_;unfold VU;rw[if_neg (Int.lt_irrefl _)]
theorem Zlx {α β:Type} {key:α->Int} {g:Nat->β->α×α}:∀ (l:List β) (m:Nat) (B:List α) (x:α),x∈Qe (λk y a=>Zy2 key a (g k y)) m l B->x∈B\/∃ k y,l[k]?=some y/\(x=(g (m+k) y).1\/x=(g (m+k) y).2)
 | [],_,_,_,h=>.inl h
 | y::l,m,B,x,h=>by
  simp only[Qe] at h;rcases Zlx l (m+1) _ x h with h | ⟨k,z,hz,h⟩
  ·unfold Zy2 at h
   split at h
   ·exact .inl h
   ·rcases Zex.1 h with h | h | h
    ·exact .inr ⟨0,y,rfl,.inl h⟩
    ·exact .inr ⟨0,y,rfl,.inr h⟩
    ·exact .inl h
  ·rw[show m+1+k=m+(k+1) by omega] at h
   exact .inr ⟨k+1,z,by rw[List.getElem?_cons_succ];exact hz,h⟩
theorem Zwq {l:List Zc} (h:ZgZ l) {c:Zc} (hc:c∈l):0<=Zc.Yx c/\Zc.Yx c<=Zc.Xt c/\Zc.Xt c<=100000/\0<=Zc.Zas c/\Zc.Zas c<=100000:=by
 obtain ⟨k,hk⟩:=List.mem_iff_getElem?.1 hc;have h1:=h.2.1 k c (by have:=(List.getElem?_eq_some_iff.1 hk).1;omega) hk;unfold Zhz Zlw at h1;simp only[Bool.and_eq_true,decide_eq_true_eq,QO] at h1;omega
theorem ZEA {r a b:Int} (h0:0<=r) (h1:r<=100000) (h2:-100000<=a) (h3:a<=b) (h4:b<=100000):Za4 (Wq (r+a),Wq (r+b),()):=by
 rw[YT (n:=r+a) (by omega) (by omega),YT (n:=r+b) (by omega) (by omega)];show (-1000000000<=r+a/\r+a<=1000000000)/\(-1000000000<=r+b/\r+b<=1000000000)/\r+a<=r+b;omega
theorem src_ok {s:Zu} {pl:List Pl} (h:ZmA pl s) {x:Zj} (hx:x∈Zv7 s):(0<=Zj.Node x/\Zj.Node x<=2*(pl.length:Int)-1)/\Za4 (Zj.Ye x)/\Zdq (Zj.QU x):=by
 rcases Zlx _ _ _ _ hx with hx | ⟨k,e,he,hx⟩
 ·rcases Zlx _ _ _ _ hx with hx | ⟨k,c,hc,hx⟩
  ·cases hx
  ·have hk:=(List.getElem?_eq_some_iff.1 hc).1
   obtain ⟨_,w2,w3⟩:=Zow h hc;have w:=ZLX h.1 (k:=(k:Int)) (by omega) (by omega);have w4:=w.p2;have w5:=w.r1;have w6:=w.r2;have w7:=w.f1;have w8:=w.f2;obtain ⟨p1,p2,p3,_⟩:=Zwq h.1 (List.mem_of_getElem? hc);have hz:Zdq (((0:Int),(0:Int),()):Zx):=by
    show (0:Int)<=0/\(0:Int)<=0/\(0:Int)<=1000000;omega
   rw[Nat.zero_add] at hx;rcases hx with rfl | rfl
   ·refine ⟨?_,ZEA w5 (by omega) (by omega) p2 p3,hz⟩
    show 0<=2*Zc.Place c/\2*Zc.Place c<=_;omega
   ·refine ⟨?_,ZEA w7 (by omega) (by omega) p2 p3,hz⟩
    show 0<=2*Zc.Place c+1/\2*Zc.Place c+1<=_;omega
 ·obtain ⟨e1,_,_,e4,e5,e6,_⟩:=h.2.2.1 k e he
  have w:=ZLX h.1 (k:=Zg.Clock e) e4.1 (by omega);have w4:=w.p2;have w5:=w.r1;have w6:=w.r2;have hs:=ZEA w5 (show (Zh1 (Zu.ZM s) (Zg.Clock e)).rise<=100000 by omega) e5.2.1 e5.1 e5.2.2;rcases hx with rfl | rfl
  ·refine ⟨?_,hs,e6⟩
   show 0<=2*Zg.Place e/\2*Zg.Place e<=_;omega
  ·refine ⟨?_,hs,e6⟩
   show 0<=2*Zg.Place e+1/\2*Zg.Place e+1<=_;omega
theorem ZD4 {α:Type} {key:α->Int} {l:List α} (h:Zdp key l) {k:Nat} {x y:α} (hx:l[k]?=some x) (hk:0<k) (hy:l[k-1]?=some y):key y<key x:=by
 obtain ⟨h1,rfl⟩:=List.getElem?_eq_some_iff.1 hx;obtain ⟨h2,rfl⟩:=List.getElem?_eq_some_iff.1 hy;exact (List.pairwise_iff_getElem.1 h) _ _ h2 h1 (by omega)
theorem ZEB {s:Zu} {pl:List Pl} (h:ZmA pl s):Zfu (Zv7 s) (ZdD (2*(pl.length:Int)) (Zv7 s)):=λk x hx=>by
 obtain ⟨h1,h2,h3⟩:=src_ok h (List.mem_of_getElem? hx);exact ⟨h1,λy hk hy=>ZD4 (ZA1 s).inc hx hk hy,h2,h3⟩
theorem ZCO {s:Zu} {pl:List Pl} (h:ZmA pl s) (hpl:pl.length<=100):(Zv7 s).length<=1000:=by
 have hl:=len2 h hpl (Zu.Jz s).length;rw[List.take_length] at hl;have:=(ZA1 s).len;have:(ZGF s).length<=212:=hl;omega
structure ZFV (b:Zd) (s:Zu) (x:Zt) (v:ZF) (t:Zw):Prop where
 set:ZqI b s
 blk:Xy b
 cor:Vw x
 view:VOk b v
 new:VQ b=some v
 is:Is b x (Zwg b) (Zv7 s) t
 prop:ZaE b x (Zwg b) (Zv7 s)=some (t,0)
theorem ZA4 (b:Zd) (s:Zu) (corner:Int) (hb:sm YA b) (hs:sm Vi s) :
  (∃ x v t,ZFV b s x v t/\atI (Zu.VE s) corner=some x/\Zcj b s corner=some (some ((v,XY b (Zwg b),()),x,Zv7 s,t,()),0)/\JX b s corner=some (t,0))\/
  (∃ code:Int,code≠0/\Zcj b s corner=some (none,code)/\JX b s corner=some (noT,code)):=by
 unfold Zcj JX;rw[Zq4 b s hb hs,Zr6 b s hb hs,Bq,Bq];by_cases hS:ZqI b s;rotate_left
 ·rw[if_neg (λq=>hS ((Xx _).1 q)),if_neg (λq=>hS ((Xx _).1 q))]
  exact .inr ⟨1,by decide,rfl,rfl⟩
 have h:Xy b:=⟨hS.1,hb⟩;have hpl:=XE hS.1.1.few;have hcs:Zi0 (Zu.VE s):=hS.2.2.2.2.2.2.2;have h4:=hcs.1;rw[if_pos (ZR hS),if_pos (ZR hS),show Qi (Zu.VE s)=some ((Zu.VE s).length:Int) from rfl,Bq,YT (n:=((Zu.VE s).length:Int)-1) (by omega) (by omega),QE,Q9,Bq,Bq];by_cases hc:0<=corner/\corner<=((Zu.VE s).length:Int)-1;rotate_left
 ·rw[if_neg (λq=>hc ((Xx _).1 q)),if_neg (λq=>hc ((Xx _).1 q))]
  exact .inr ⟨4,by decide,rfl,rfl⟩
 obtain ⟨x,hx,hx2⟩:=Zme (l:=Zu.VE s) hc.1 (by omega);have hC:Vw x:=hcs.2.1 x (List.mem_of_getElem? hx2);have hxs:sm Yd x:=hs.2.2.2.2.1.2 x (List.mem_of_getElem? hx2);obtain ⟨v,hv1,hv⟩:=ZBq h;have hO:=ZBJ h;have hR:ZpQ ((Zl b).length:Int) (Zwg b):=ZBU _ _;have hbl:(Zwg b).length<=1048576:=by
  have h1:=ZBT (Zl b).length (ZmB b);have h2:=Y7 h;exact Nat.le_trans h1 (by omega)
 have hsl:=ZCO hS.2 (by omega);have hsl:(Zv7 s).length<=1048576:=by omega
 have hSr:=ZEB hS.2;have hA:ZqG b x (Zwg b) (Zv7 s):=⟨h,hC,hR,hSr,hO⟩;obtain ⟨r,e1,e2,hr⟩:=ZEm b x (Zwg b) (Zv7 s) hb hxs hbl hsl;have eT:JV b x (Zwg b) (Zv7 s) none=some (some (v,XY b (Zwg b),()),(ZaX b (Zwg b)).1,0):=by
  unfold JV;rw[ZhD b hb,Bq,if_pos (ZR hS.1),ZgI x,Bq,if_pos (ZR hC),hv1,Bq,if_pos (by rfl),Zrh h hv hbl,Bq,if_pos (ZR hR),Zig h v hv.ZC _ hsl,Bq,if_pos (ZR hSr),ZoF h hv hbl hR,Bq,ZqA h hv,Bq,if_pos hO]
 have e3:=e1;unfold ZaE at e3;rw[eT,Bq,if_pos rfl,Bq] at e3;obtain ⟨p,hp,e3⟩:=Option.bind_eq_some_iff.1 e3;have hp:XT (v,XY b (Zwg b),()) x (Zv7 s) (ZaX b (Zwg b)).1=some p:=hp;rw[if_pos (ZR hc),if_pos (ZR hc),hx,hv1,Bq,Bq,Bq,Zuc h hv,Bq,ZoF h hv hbl hR,Bq,ZoI hS.2 (by omega),Bq,ZqA h hv,Bq,if_pos hO,hp,Bq,
  ZuK h,Bq,Zse hS.2 (by omega),Bq,e2,Bq]
 cases hq:p.2 with
 | true =>
  rw[if_pos hq] at e3;injection e3 with e3
  subst e3;rcases hr with ⟨_,hI⟩ | ⟨_,h2,_⟩
  ·exact .inl ⟨x,v,p.1,⟨hS,h,hC,hv,hv1,hI,e1⟩,rfl,rfl,rfl⟩
  ·rename_i h1 h3
   rcases h3 with ⟨h3,_⟩ | ⟨_,h3,_⟩
   ·cases h3
   ·exact absurd hA h3
 | false =>
  rw[if_neg (by rw[hq];decide)] at e3;injection e3 with e3
  subst e3;exact .inr ⟨3,by decide,rfl,rfl⟩
theorem ZCb {α β:Type} {P:Prop} {_:Decidable P} (a b:Option α) (f:α->Option β):(if P then a else b).bind f=if P then a.bind f else b.bind f:=by
 split<;>rfl
theorem Zzg (b:Zd) (s:Zu) (corner:Int):ZbA b s corner=(Zcj b s corner).bind λr=>if r.2=0 then r.1.bind λx=>some (Zdr.timing x,0) else some (noT,r.2):=by
 unfold ZbA Zcj;simp only[Option.bind_assoc,ZCb,Bq,if_true,show ¬(1:Int)=0 by decide,show ¬(3:Int)=0 by decide,show ¬(4:Int)=0 by decide,show ¬(7:Int)=0 by decide,if_false];rfl
theorem ZvV (b:Zd) (s:Zu) (corner:Int) (hb:sm YA b) (hs:sm Vi s) :
  ∃ q:Zw×Int,ZbA b s corner=some q/\JX b s corner=some q/\((q.2=0/\∃ x v,ZFV b s x v q.1/\atI (Zu.VE s) corner=some x)\/(q.2≠0/\q.1=noT)):=by
 rw[Zzg];rcases ZA4 b s corner hb hs with ⟨x,v,t,hR,hx,e1,e2⟩ | ⟨code,hne,e1,e2⟩
 ·rw[e1,e2,Bq,if_pos rfl,Bq]
  exact ⟨_,rfl,rfl,.inl ⟨rfl,x,v,hR,hx⟩⟩
 ·rw[e1,e2,Bq,if_neg hne]
  exact ⟨_,rfl,rfl,.inr ⟨hne,rfl⟩⟩
theorem Zqy {α:Type} {L:List α} {j:Nat} {z:α} {A A' B B':Int} (hA:A=A') (hB:B=B'):∃ y,(some (.inl (A,B,List.set L j z,())):Option ((Int×Int×List α×Unit) ⊕ (Int×List α)))=some (.inl (A',B',List.set L j y,())):=⟨z,by rw[hA,hB]⟩
theorem Zd5 (k:Int) (h0:0<=k) (h1:k<=4611686018427387904):∃ s,Vb k=some s:=by
 unfold Vb;split
 ·exact ⟨_,rfl⟩
 ·obtain ⟨r,h,_⟩:=ZeD (step:=λv=>Zd3 v.1 v.2.1) (λv:Int×List UInt8×Unit=>0<=v.1/\v.1+(v.2.1.length:Int)<=4611686018427387904) (λv=>v.1.toNat) (λ_=>True) (v:=(k,([]:List UInt8),())) ⟨h0,by simpa using h1⟩
   (by
    rintro ⟨m,s,⟨⟩⟩ ⟨a,b⟩;simp only at a b;simp only[Zd3];by_cases hm:0<m
    ·have e1:Int.tdiv m 10=m / 10:=Int.tdiv_eq_ediv_of_nonneg a
     rw[if_pos hm,e1,YT (n:=m / 10) (by omega) (by omega),Zh (by simp only[bytesOf,List.length_map,List.length_singleton];omega)];refine .inl ⟨_,rfl,⟨by simp only;omega,?_⟩,by simp only;omega⟩;simp only[List.length_append,bytesOf,List.length_map,List.length_singleton];omega
    ·rw[if_neg hm,Zh (by simp only[List.length_singleton];omega)]
     exact .inr ⟨_,rfl,trivial⟩)
  exact ⟨r,h⟩
theorem ZsN (a:YQ) (left:Int) (h0:0<=left) (h1:left<=1048576) (hb:bnd (Zge) a):Szt (Zet a left) left (tot (Zge) a):=by
 unfold Zet;exact (Szt.len h0 h1 (by omega) hb.1 (λhw0 a0 b0=>by rw[hw0];exact Szt.ret)).mono (by simp only[Zb5,Zfr,Zb4,Zb6,Zeo];omega)
theorem Zrw (a:List (YQ)) (left:Int) (h0:0<=left) (h1:left<=1048576) (hb:bnd (.sl (Zge)) a):Szt (ZfC a left) left (tot (.sl (Zge)) a):=by
 unfold ZfC;refine (Szt.len h0 h1 (by omega) hb.1 (λhw m0 m1=>(?_:Szt _ _ ((a.map (tot (Zge))).sum)))).mono (by rw[ZiK];omega);rw[hw];exact Szt.loop (f:=λx m=>Zet x m) (P:=λx=>sm (Zge) x) (T:=tot (Zge)) (λx hx m m0 m1=>Zn2 x m m0 m1 (hb.2 x hx)) (λx hx m m0 m1=>ZsN x m m0 m1 (hb.2 x hx)) (λk m=>rfl) m0 m1 (by omega)
theorem Xa (a:List (Int)) (left:Int) (h0:0<=left) (h1:left<=1048576) (hb:bnd (.sl (.int .i64)) a):Szt (Xd a left) left (tot (.sl (.int .i64)) a):=by
 unfold Xd;refine (Szt.len h0 h1 (by omega) hb.1 (λhw m0 m1=>(?_:Szt _ _ ((a.map (tot (.int .i64))).sum)))).mono (by rw[ZiK];omega);rw[hw];exact Szt.ret.mono (by rw[Zsh (by rfl)];omega)
theorem Zqb (a:Zz) (left:Int) (h0:0<=left) (h1:left<=1048576) (hb:bnd (Xw) a):Szt (Za8 a left) left (tot (Xw) a):=by
 unfold Za8;exact (Szt.then (Xa a.1 _ h0 h1 hb.1) h0 h1 (λm0 a0 b0=>Szt.then (Xa a.2.1 _ a0 b0 hb.2.1) a0 b0 (λm1 a1 b1=>Szt.last (Xa a.2.2.1 _ a1 b1 hb.2.2.1)))).mono (by simp only[Zb5,Zfr,Zb4,Zb6,Zeo];omega)
theorem Zje (a:List (Zz)) (left:Int) (h0:0<=left) (h1:left<=1048576) (hb:bnd (.sl (Xw)) a):Szt (Zbm a left) left (tot (.sl (Xw)) a):=by
 unfold Zbm;refine (Szt.len h0 h1 (by omega) hb.1 (λhw m0 m1=>(?_:Szt _ _ ((a.map (tot (Xw))).sum)))).mono (by rw[ZiK];omega);rw[hw];exact Szt.loop (f:=λx m=>Za8 x m) (P:=λx=>sm (Xw) x) (T:=tot (Xw)) (λx hx m m0 m1=>Zlq x m m0 m1 (hb.2 x hx)) (λx hx m m0 m1=>Zqb x m m0 m1 (hb.2 x hx)) (λk m=>rfl) m0 m1 (by omega)
theorem ZsL (a:ZG) (left:Int) (h0:0<=left) (h1:left<=1048576) (hb:bnd (ZgE) a):Szt (Zeq a left) left (tot (ZgE) a):=by
 unfold Zeq;exact (Szt.then (Zje a.2.2.2.2.1 _ h0 h1 hb.2.2.2.2.1) h0 h1 (λm0 a0 b0=>Szt.last (Zje a.2.2.2.2.2.1 _ a0 b0 hb.2.2.2.2.2.1))).mono (by simp only[Zb5,Zfr,Zb4,Zb6,Zeo];omega)
theorem Zrs (a:List (ZG)) (left:Int) (h0:0<=left) (h1:left<=1048576) (hb:bnd (.sl (ZgE)) a):Szt (ZfB a left) left (tot (.sl (ZgE)) a):=by
 unfold ZfB;refine (Szt.len h0 h1 (by omega) hb.1 (λhw m0 m1=>(?_:Szt _ _ ((a.map (tot (ZgE))).sum)))).mono (by rw[ZiK];omega);rw[hw];exact Szt.loop (f:=λx m=>Zeq x m) (P:=λx=>sm (ZgE) x) (T:=tot (ZgE)) (λx hx m m0 m1=>ZnY x m m0 m1 (hb.2 x hx)) (λx hx m m0 m1=>ZsL x m m0 m1 (hb.2 x hx)) (λk m=>rfl) m0 m1 (by omega)
theorem Zrv (a:Zn) (left:Int) (h0:0<=left) (h1:left<=1048576) (hb:bnd (V8) a):Szt (Zcr a left) left (tot (V8) a):=by
 unfold Zcr;exact (Szt.len h0 h1 (by omega) hb.1 (λhw0 a0 b0=>by rw[hw0];exact Szt.then (Zrw a.2.2.1 _ a0 b0 hb.2.2.1) a0 b0 (λm1 a1 b1=>Szt.then (Zrs a.2.2.2.1 _ a1 b1 hb.2.2.2.1) a1 b1 (λm2 a2 b2=>Szt.last (Xa a.2.2.2.2.1 _ a2 b2 hb.2.2.2.2.1))))).mono (by simp only[Zb5,Zfr,Zb4,Zb6,Zeo];omega)
theorem Zp5 (a:List (Zn)) (left:Int) (h0:0<=left) (h1:left<=1048576) (hb:bnd (.sl (V8)) a):Szt (Zes a left) left (tot (.sl (V8)) a):=by
 unfold Zes;refine (Szt.len h0 h1 (by omega) hb.1 (λhw m0 m1=>(?_:Szt _ _ ((a.map (tot (V8))).sum)))).mono (by rw[ZiK];omega);rw[hw];exact Szt.loop (f:=λx m=>Zcr x m) (P:=λx=>sm (V8) x) (T:=tot (V8)) (λx hx m m0 m1=>Zmn x m m0 m1 (hb.2 x hx)) (λx hx m m0 m1=>Zrv x m m0 m1 (hb.2 x hx)) (λk m=>rfl) m0 m1 (by omega)
theorem Zn1 (a:ZE) (left:Int) (h0:0<=left) (h1:left<=1048576) (hb:bnd (Xf) a):Szt (ZbL a left) left (tot (Xf) a):=by
 unfold ZbL;exact (Szt.last (Zp5 a.1 _ h0 h1 hb.1)).mono (by simp only[Zb5,Zfr,Zb4,Zb6,Zeo];omega)
theorem ZmZ (a:Zk) (left:Int) (h0:0<=left) (h1:left<=1048576) (hb:bnd (Yl) a):Szt (VT a left) left (tot (Yl) a):=by
 unfold VT;exact (Szt.len h0 h1 (by omega) hb.1 (λhw0 a0 b0=>by rw[hw0];exact Szt.last (Xa a.2.2.1 _ a0 b0 hb.2.2.1))).mono (by simp only[Zb5,Zfr,Zb4,Zb6,Zeo];omega)
theorem Zl4 (a:List (Zk)) (left:Int) (h0:0<=left) (h1:left<=1048576) (hb:bnd (.sl (Yl)) a):Szt (JW a left) left (tot (.sl (Yl)) a):=by
 unfold JW;refine (Szt.len h0 h1 (by omega) hb.1 (λhw m0 m1=>(?_:Szt _ _ ((a.map (tot (Yl))).sum)))).mono (by rw[ZiK];omega);rw[hw];exact Szt.loop (f:=λx m=>VT x m) (P:=λx=>sm (Yl) x) (T:=tot (Yl)) (λx hx m m0 m1=>Zit x m m0 m1 (hb.2 x hx)) (λx hx m m0 m1=>ZmZ x m m0 m1 (hb.2 x hx)) (λk m=>rfl) m0 m1 (by omega)
theorem Zn4 (a:List (List UInt8)) (left:Int) (h0:0<=left) (h1:left<=1048576) (hb:bnd (.sl (.str)) a):Szt (ZbM a left) left (tot (.sl (.str)) a):=by
 unfold ZbM;refine (Szt.len h0 h1 (by omega) hb.1 (λhw m0 m1=>(?_:Szt _ _ ((a.map (tot (.str))).sum)))).mono (by rw[ZiK];omega);rw[hw];exact Szt.loop (l:=a) (α:=List UInt8) (f:=λ(x:List UInt8) (m:Int)=>if Wq (m-(x.length:Int))<0 then some (-1) else some (Wq (m-(x.length:Int)))) (P:=λ(x:List UInt8)=>sm .str x) (T:=λ(x:List UInt8)=>tot .str x) (λx hx m m0 m1=>Szd.str x m m0 m1 (hb.2 x hx)) (λx hx m m0 m1=>Szt.str x m m0 m1 (hb.2 x hx)) (λk m=>by
  show Jg a m (k:Int)=_;unfold Jg;congr 1;congr 1;funext x;split<;>simp_all) m0 m1 (by omega)
theorem Zry (a:Yj) (left:Int) (h0:0<=left) (h1:left<=1048576) (hb:bnd (Za3) a):Szt (Zcs a left) left (tot (Za3) a):=by
 unfold Zcs;exact (Szt.len h0 h1 (by omega) hb.1 (λhw0 a0 b0=>by rw[hw0];exact Szt.ret)).mono (by simp only[Zb5,Zfr,Zb4,Zb6,Zeo];omega)
theorem Zp9 (a:List (Yj)) (left:Int) (h0:0<=left) (h1:left<=1048576) (hb:bnd (.sl (Za3)) a):Szt (Zeu a left) left (tot (.sl (Za3)) a):=by
 unfold Zeu;refine (Szt.len h0 h1 (by omega) hb.1 (λhw m0 m1=>(?_:Szt _ _ ((a.map (tot (Za3))).sum)))).mono (by rw[ZiK];omega);rw[hw];exact Szt.loop (f:=λx m=>Zcs x m) (P:=λx=>sm (Za3) x) (T:=tot (Za3)) (λx hx m m0 m1=>Zmo x m m0 m1 (hb.2 x hx)) (λx hx m m0 m1=>Zry x m m0 m1 (hb.2 x hx)) (λk m=>rfl) m0 m1 (by omega)
theorem Zo7 (a:Zf) (left:Int) (h0:0<=left) (h1:left<=1048576) (hb:bnd (YZ) a):Szt (ZcY a left) left (tot (YZ) a):=by
 unfold ZcY;exact (Szt.then (Zl4 a.1 _ h0 h1 hb.1) h0 h1 (λm0 a0 b0=>Szt.then (Zn4 a.2.1 _ a0 b0 hb.2.1) a0 b0 (λm1 a1 b1=>Szt.last (Zp9 a.2.2.1 _ a1 b1 hb.2.2.1)))).mono (by simp only[Zb5,Zfr,Zb4,Zb6,Zeo];omega)
theorem ZrB (a:ZB) (left:Int) (h0:0<=left) (h1:left<=1048576) (hb:bnd (ZaB) a):Szt (Zct a left) left (tot (ZaB) a):=by
 unfold Zct;exact (Szt.then (Xa a.1 _ h0 h1 hb.1) h0 h1 (λm0 a0 b0=>Szt.then (Xa a.2.1 _ a0 b0 hb.2.1) a0 b0 (λm1 a1 b1=>Szt.then (Xa a.2.2.1 _ a1 b1 hb.2.2.1) a1 b1 (λm2 a2 b2=>Szt.last (Xa a.2.2.2.1 _ a2 b2 hb.2.2.2.1))))).mono (by simp only[Zb5,Zfr,Zb4,Zb6,Zeo];omega)
theorem Zqc (a:List (ZB)) (left:Int) (h0:0<=left) (h1:left<=1048576) (hb:bnd (.sl (ZaB)) a):Szt (Zew a left) left (tot (.sl (ZaB)) a):=by
 unfold Zew;refine (Szt.len h0 h1 (by omega) hb.1 (λhw m0 m1=>(?_:Szt _ _ ((a.map (tot (ZaB))).sum)))).mono (by rw[ZiK];omega);rw[hw];exact Szt.loop (f:=λx m=>Zct x m) (P:=λx=>sm (ZaB) x) (T:=tot (ZaB)) (λx hx m m0 m1=>Zmp x m m0 m1 (hb.2 x hx)) (λx hx m m0 m1=>ZrB x m m0 m1 (hb.2 x hx)) (λk m=>rfl) m0 m1 (by omega)
theorem Zp4 (a:Zd) (left:Int) (h0:0<=left) (h1:left<=1048576) (hb:bnd (YA) a):Szt (Zer a left) left (tot (YA) a):=by
 unfold Zer;exact (Szt.then (Zn1 a.1 _ h0 h1 hb.1) h0 h1 (λm0 a0 b0=>Szt.then (Zo7 a.2.1 _ a0 b0 hb.2.1) a0 b0 (λm1 a1 b1=>Szt.last (Zqc a.2.2.1 _ a1 b1 hb.2.2.1)))).mono (by simp only[Zb5,Zfr,Zb4,Zb6,Zeo];omega)
theorem Zp7 (a:Zc) (left:Int) (h0:0<=left) (h1:left<=1048576) (hb:bnd (Xh) a):Szt (Za7 a left) left (tot (Xh) a):=by
 unfold Za7;exact (Szt.len h0 h1 (by omega) hb.1 (λhw0 a0 b0=>by rw[hw0];exact Szt.ret)).mono (by simp only[Zb5,Zfr,Zb4,Zb6,Zeo];omega)
theorem Zo4 (a:List (Zc)) (left:Int) (h0:0<=left) (h1:left<=1048576) (hb:bnd (.sl (Xh)) a):Szt (ZcX a left) left (tot (.sl (Xh)) a):=by
 unfold ZcX;refine (Szt.len h0 h1 (by omega) hb.1 (λhw m0 m1=>(?_:Szt _ _ ((a.map (tot (Xh))).sum)))).mono (by rw[ZiK];omega);rw[hw];exact Szt.loop (f:=λx m=>Za7 x m) (P:=λx=>sm (Xh) x) (T:=tot (Xh)) (λx hx m m0 m1=>Zlo x m m0 m1 (hb.2 x hx)) (λx hx m m0 m1=>Zp7 x m m0 m1 (hb.2 x hx)) (λk m=>rfl) m0 m1 (by omega)
theorem ZgW (a:List (Zg)) (left:Int) (h0:0<=left) (h1:left<=1048576) (hb:bnd (.sl (Z5)) a):Szt (V6 a left) left (tot (.sl (Z5)) a):=by
 unfold V6;refine (Szt.len h0 h1 (by omega) hb.1 (λhw m0 m1=>(?_:Szt _ _ ((a.map (tot (Z5))).sum)))).mono (by rw[ZiK];omega);rw[hw];exact Szt.ret.mono (by rw[Zsh (by rfl)];omega)
theorem Zl3 (a:Zr) (left:Int) (h0:0<=left) (h1:left<=1048576) (hb:bnd (ZO) a):Szt (Vs a left) left (tot (ZO) a):=by
 unfold Vs;exact (Szt.then (Xa a.2.2.1 _ h0 h1 hb.2.2.1) h0 h1 (λm0 a0 b0=>Szt.then (Xa a.2.2.2.1 _ a0 b0 hb.2.2.2.1) a0 b0 (λm1 a1 b1=>Szt.last (Xa a.2.2.2.2.1 _ a1 b1 hb.2.2.2.2.1)))).mono (by simp only[Zb5,Zfr,Zb4,Zb6,Zeo];omega)
theorem Zlp (a:List (Zr)) (left:Int) (h0:0<=left) (h1:left<=1048576) (hb:bnd (.sl (ZO)) a):Szt (Jw a left) left (tot (.sl (ZO)) a):=by
 unfold Jw;refine (Szt.len h0 h1 (by omega) hb.1 (λhw m0 m1=>(?_:Szt _ _ ((a.map (tot (ZO))).sum)))).mono (by rw[ZiK];omega);rw[hw];exact Szt.loop (f:=λx m=>Vs x m) (P:=λx=>sm (ZO) x) (T:=tot (ZO)) (λx hx m m0 m1=>ZhK x m m0 m1 (hb.2 x hx)) (λx hx m m0 m1=>Zl3 x m m0 m1 (hb.2 x hx)) (λk m=>rfl) m0 m1 (by omega)
theorem Zo6 (a:Zt) (left:Int) (h0:0<=left) (h1:left<=1048576) (hb:bnd (Yd) a):Szt (Zad a left) left (tot (Yd) a):=by
 unfold Zad;exact (Szt.len h0 h1 (by omega) hb.1 (λhw0 a0 b0=>by rw[hw0];exact Szt.ret)).mono (by simp only[Zb5,Zfr,Zb4,Zb6,Zeo];omega)
theorem Zn0 (a:List (Zt)) (left:Int) (h0:0<=left) (h1:left<=1048576) (hb:bnd (.sl (Yd)) a):Szt (ZbK a left) left (tot (.sl (Yd)) a):=by
 unfold ZbK;refine (Szt.len h0 h1 (by omega) hb.1 (λhw m0 m1=>(?_:Szt _ _ ((a.map (tot (Yd))).sum)))).mono (by rw[ZiK];omega);rw[hw];exact Szt.loop (f:=λx m=>Zad x m) (P:=λx=>sm (Yd) x) (T:=tot (Yd)) (λx hx m m0 m1=>Zkf x m m0 m1 (hb.2 x hx)) (λx hx m m0 m1=>Zo6 x m m0 m1 (hb.2 x hx)) (λk m=>rfl) m0 m1 (by omega)
theorem Zqa (a:Zu) (left:Int) (h0:0<=left) (h1:left<=1048576) (hb:bnd (Vi) a):Szt (Zev a left) left (tot (Vi) a):=by
 unfold Zev;exact (Szt.then (Zo4 a.1 _ h0 h1 hb.1) h0 h1 (λm0 a0 b0=>Szt.then (ZgW a.2.1 _ a0 b0 hb.2.1) a0 b0 (λm1 a1 b1=>Szt.then (ZgW a.2.2.1 _ a1 b1 hb.2.2.1) a1 b1 (λm2 a2 b2=>Szt.then (Zlp a.2.2.2.1 _ a2 b2 hb.2.2.2.1) a2 b2 (λm3 a3 b3=>Szt.last (Zn0 a.2.2.2.2.1 _ a3 b3 hb.2.2.2.2.1)))))).mono (by simp only[Zb5,Zfr,Zb4,Zb6,Zeo];omega)
theorem Zp3 (a:List (YQ)) (k:Int) (hs:sm (.sl (Zge)) a) (h0:0<=k) (h1:k+(cnt (.sl (Zge)) a:Int)<=4611686018427387904):Mkd (Zhb a k) k (cnt (.sl (Zge)) a):=by
 unfold Zhb;have hl:a.length<=1048576:=by have:=hs.1;omega
 refine Mkd.loop (l:=a) (c:=cnt (Zge)) (λj m x L hj hj' hL hx hxm hm0 hm1 hj2=>?_) (λm L hL=>?_) hl h0 h1
 ·have hsx:=hs.2 x hxm
  have hc:((cnt (Zge) x:Nat):Int)=0+1+1+1+1:=by simp only[J5,Zca,J4,J6,Zcb];omega
  obtain ⟨s0,e0⟩:=Zd5 (m) (by omega) (by omega);have hx2:atI L (j:Int)=some x:=by rw[Zp];exact hx
  have hb:∀ {β:Type} (y:YQ) (F:YQ->Option β),(atI (List.set L j y) (j:Int)).bind F=F y:=λy F=>by rw[ZdS hj];rfl
  simp only[Zd2,if_pos hj',Int.toNat_natCast,hx2,↓hb,Bq,List.set_set,e0];refine Zqy ?_ ?_
  ·have hc:=hc;simp (disch:=omega) only [YT];omega
  ·simp (disch:=omega) only [YT];omega
 ·simp only[Zd2,Int.lt_irrefl,if_false]
theorem YS (a:List (Int)) (k:Int) (hs:sm (.sl (.int .i64)) a) (h0:0<=k) (h1:k+(cnt (.sl (.int .i64)) a:Int)<=4611686018427387904):Mkd (YU a k) k (cnt (.sl (.int .i64)) a):=by
 unfold YU;have hl:a.length<=1048576:=by have:=hs.1;omega
 refine Mkd.loop (l:=a) (c:=cnt (.int .i64)) (λj m x L hj hj' hL hx hxm hm0 hm1 hj2=>?_) (λm L hL=>?_) hl h0 h1
 ·have hsx:=hs.2 x hxm
  have hc:((cnt (.int .i64) x:Nat):Int)=0+1:=by rfl
  simp (disch:=omega) only [Zco,if_pos hj',Zp,hx,Bq,YT,Int.toNat_natCast,ZdS,List.length_set,List.set_set,List.getElem?_set_self];refine ⟨_,congrArg some (congrArg Sum.inl (Prod.ext ?_ (Prod.ext ?_ (Prod.ext rfl rfl))))⟩
  ·show _=m+_;rw[hc];omega
  ·simp only;omega
 ·simp only[Zco,Int.lt_irrefl,if_false]
theorem Zis (a:List (Zz)) (k:Int) (hs:sm (.sl (Xw)) a) (h0:0<=k) (h1:k+(cnt (.sl (Xw)) a:Int)<=4611686018427387904):Mkd (Zcp a k) k (cnt (.sl (Xw)) a):=by
 unfold Zcp;have hl:a.length<=1048576:=by have:=hs.1;omega
 refine Mkd.loop (l:=a) (c:=cnt (Xw)) (λj m x L hj hj' hL hx hxm hm0 hm1 hj2=>?_) (λm L hL=>?_) hl h0 h1
 ·have hsx:=hs.2 x hxm
  have hc:((cnt (Xw) x:Nat):Int)=0+((cnt (.sl (.int .i64)) x.1:Nat):Int)+((cnt (.sl (.int .i64)) x.2.1:Nat):Int)+((cnt (.sl (.int .i64)) x.2.2.1:Nat):Int):=by simp only[J5,Zca,J4,J6,Zcb];omega
  obtain ⟨s0,e0⟩:=YS x.1 (m) hsx.1 (by omega) (by omega);obtain ⟨s1,e1⟩:=YS x.2.1 (m+((cnt (.sl (.int .i64)) x.1:Nat):Int)) hsx.2.1 (by omega) (by omega);obtain ⟨s2,e2⟩:=YS x.2.2.1 (m+((cnt (.sl (.int .i64)) x.1:Nat):Int)+((cnt (.sl (.int .i64)) x.2.1:Nat):Int)) hsx.2.2.1 (by omega) (by omega);simp (disch:=omega) only [Zcq,if_pos hj',Zp,hx,Bq,YT,Int.toNat_natCast,ZdS,List.length_set,List.set_set,List.getElem?_set_self,e0,e1,e2];refine ⟨_,congrArg some (congrArg Sum.inl (Prod.ext ?_ (Prod.ext ?_ (Prod.ext rfl rfl))))⟩
  ·show _=m+_;rw[hc];omega
  ·simp only;omega
 ·simp only[Zcq,Int.lt_irrefl,if_false]
theorem Zp2 (a:List (ZG)) (k:Int) (hs:sm (.sl (ZgE)) a) (h0:0<=k) (h1:k+(cnt (.sl (ZgE)) a:Int)<=4611686018427387904):Mkd (Zha a k) k (cnt (.sl (ZgE)) a):=by
 unfold Zha;have hl:a.length<=1048576:=by have:=hs.1;omega
 refine Mkd.loop (l:=a) (c:=cnt (ZgE)) (λj m x L hj hj' hL hx hxm hm0 hm1 hj2=>?_) (λm L hL=>?_) hl h0 h1
 ·have hsx:=hs.2 x hxm
  have hc:((cnt (ZgE) x:Nat):Int)=0+1+1+1+1+((cnt (.sl (Xw)) x.2.2.2.2.1:Nat):Int)+((cnt (.sl (Xw)) x.2.2.2.2.2.1:Nat):Int):=by simp only[J5,Zca,J4,J6,Zcb];omega
  obtain ⟨s0,e0⟩:=Zis x.2.2.2.2.1 (m+1+1+1+1) hsx.2.2.2.2.1 (by omega) (by omega);obtain ⟨s1,e1⟩:=Zis x.2.2.2.2.2.1 (m+1+1+1+1+((cnt (.sl (Xw)) x.2.2.2.2.1:Nat):Int)) hsx.2.2.2.2.2.1 (by omega) (by omega);simp (disch:=omega) only [Zd1,if_pos hj',Zp,hx,Bq,YT,Int.toNat_natCast,ZdS,List.length_set,List.set_set,List.getElem?_set_self,e0,e1];refine ⟨_,congrArg some (congrArg Sum.inl (Prod.ext ?_ (Prod.ext ?_ (Prod.ext rfl rfl))))⟩
  ·show _=m+_;rw[hc];omega
  ·simp only;omega
 ·simp only[Zd1,Int.lt_irrefl,if_false]
theorem ZoZ (a:List (Zn)) (k:Int) (hs:sm (.sl (V8)) a) (h0:0<=k) (h1:k+(cnt (.sl (V8)) a:Int)<=4611686018427387904):Mkd (Zf1 a k) k (cnt (.sl (V8)) a):=by
 unfold Zf1;have hl:a.length<=1048576:=by have:=hs.1;omega
 refine Mkd.loop (l:=a) (c:=cnt (V8)) (λj m x L hj hj' hL hx hxm hm0 hm1 hj2=>?_) (λm L hL=>?_) hl h0 h1
 ·have hsx:=hs.2 x hxm
  have hc:((cnt (V8) x:Nat):Int)=0+1+1+((cnt (.sl (Zge)) x.2.2.1:Nat):Int)+((cnt (.sl (ZgE)) x.2.2.2.1:Nat):Int)+((cnt (.sl (.int .i64)) x.2.2.2.2.1:Nat):Int)+1+1:=by simp only[J5,Zca,J4,J6,Zcb];omega
  obtain ⟨s0,e0⟩:=Zd5 (m) (by omega) (by omega);obtain ⟨s1,e1⟩:=Zp3 x.2.2.1 (m+1+1) hsx.2.2.1 (by omega) (by omega);obtain ⟨s2,e2⟩:=Zp2 x.2.2.2.1 (m+1+1+((cnt (.sl (Zge)) x.2.2.1:Nat):Int)) hsx.2.2.2.1 (by omega) (by omega);obtain ⟨s3,e3⟩:=YS x.2.2.2.2.1 (m+1+1+((cnt (.sl (Zge)) x.2.2.1:Nat):Int)+((cnt (.sl (ZgE)) x.2.2.2.1:Nat):Int)) hsx.2.2.2.2.1 (by omega) (by omega);simp (disch:=omega) only [Zdb,if_pos hj',Zp,hx,Bq,YT,Int.toNat_natCast,ZdS,List.length_set,List.set_set,List.getElem?_set_self,e0,e1,e2,e3];refine ⟨_,congrArg some (congrArg Sum.inl (Prod.ext ?_ (Prod.ext ?_ (Prod.ext rfl rfl))))⟩
  ·show _=m+_;rw[hc];omega
  ·simp only;omega
 ·simp only[Zdb,Int.lt_irrefl,if_false]
theorem ZmV (a:ZE) (k:Int) (hs:sm (Xf) a) (h0:0<=k) (h1:k+((cnt (Xf) a:Nat):Int)<=4611686018427387904):Mkd (ZdK a k) k (cnt (Xf) a):=by
 unfold ZdK;have hc:((cnt (Xf) a:Nat):Int)=0+(((cnt (.sl (V8)) a.1):Nat):Int):=by simp only[J5,Zca,J4,J6,Zcb];omega
 obtain ⟨s0,e0⟩:=ZoZ a.1 (k) hs.1 (by omega) (by omega);simp only[Bq,e0];exact ⟨_,congrArg some (Prod.ext (by rfl) rfl)⟩
theorem Zln (a:List (Zk)) (k:Int) (hs:sm (.sl (Yl)) a) (h0:0<=k) (h1:k+(cnt (.sl (Yl)) a:Int)<=4611686018427387904):Mkd (Zb1 a k) k (cnt (.sl (Yl)) a):=by
 unfold Zb1;have hl:a.length<=1048576:=by have:=hs.1;omega
 refine Mkd.loop (l:=a) (c:=cnt (Yl)) (λj m x L hj hj' hL hx hxm hm0 hm1 hj2=>?_) (λm L hL=>?_) hl h0 h1
 ·have hsx:=hs.2 x hxm
  have hc:((cnt (Yl) x:Nat):Int)=0+1+1+((cnt (.sl (.int .i64)) x.2.2.1:Nat):Int):=by simp only[J5,Zca,J4,J6,Zcb];omega
  obtain ⟨s0,e0⟩:=Zd5 (m) (by omega) (by omega);obtain ⟨s1,e1⟩:=YS x.2.2.1 (m+1+1) hsx.2.2.1 (by omega) (by omega);simp (disch:=omega) only [ZaV,if_pos hj',Zp,hx,Bq,YT,Int.toNat_natCast,ZdS,List.length_set,List.set_set,List.getElem?_set_self,e0,e1];refine ⟨_,congrArg some (congrArg Sum.inl (Prod.ext ?_ (Prod.ext ?_ (Prod.ext rfl rfl))))⟩
  ·show _=m+_;rw[hc];omega
  ·simp only;omega
 ·simp only[ZaV,Int.lt_irrefl,if_false]
theorem ZmW (a:List (List UInt8)) (k:Int) (hs:sm (.sl (.str)) a) (h0:0<=k) (h1:k+(cnt (.sl (.str)) a:Int)<=4611686018427387904):Mkd (ZdL a k) k (cnt (.sl (.str)) a):=by
 unfold ZdL;have hl:a.length<=1048576:=by have:=hs.1;omega
 refine Mkd.loop (l:=a) (c:=cnt (.str)) (λj m x L hj hj' hL hx hxm hm0 hm1 hj2=>?_) (λm L hL=>?_) hl h0 h1
 ·have hsx:=hs.2 x hxm
  have hc:((cnt (.str) x:Nat):Int)=0+1:=by rfl
  obtain ⟨s0,e0⟩:=Zd5 (m) (by omega) (by omega);simp (disch:=omega) only [ZbW,if_pos hj',Zp,hx,Bq,YT,Int.toNat_natCast,ZdS,List.length_set,List.set_set,List.getElem?_set_self,e0];refine ⟨_,congrArg some (congrArg Sum.inl (Prod.ext ?_ (Prod.ext ?_ (Prod.ext rfl rfl))))⟩
  ·show _=m+_;rw[hc];omega
  ·simp only;omega
 ·simp only[ZbW,Int.lt_irrefl,if_false]
theorem Zo0 (a:List (Yj)) (k:Int) (hs:sm (.sl (Za3)) a) (h0:0<=k) (h1:k+(cnt (.sl (Za3)) a:Int)<=4611686018427387904):Mkd (Zf2 a k) k (cnt (.sl (Za3)) a):=by
 unfold Zf2;have hl:a.length<=1048576:=by have:=hs.1;omega
 refine Mkd.loop (l:=a) (c:=cnt (Za3)) (λj m x L hj hj' hL hx hxm hm0 hm1 hj2=>?_) (λm L hL=>?_) hl h0 h1
 ·have hsx:=hs.2 x hxm
  have hc:((cnt (Za3) x:Nat):Int)=0+1+1+1:=by simp only[J5,Zca,J4,J6,Zcb];omega
  obtain ⟨s0,e0⟩:=Zd5 (m) (by omega) (by omega);simp (disch:=omega) only [Zdc,if_pos hj',Zp,hx,Bq,YT,Int.toNat_natCast,ZdS,List.length_set,List.set_set,List.getElem?_set_self,e0];refine ⟨_,congrArg some (congrArg Sum.inl (Prod.ext ?_ (Prod.ext ?_ (Prod.ext rfl rfl))))⟩
  ·show _=m+_;rw[hc];omega
  ·simp only;omega
 ·simp only[Zdc,Int.lt_irrefl,if_false]
theorem ZnW (a:Zf) (k:Int) (hs:sm (YZ) a) (h0:0<=k) (h1:k+((cnt (YZ) a:Nat):Int)<=4611686018427387904):Mkd (Ze1 a k) k (cnt (YZ) a):=by
 unfold Ze1;have hc:((cnt (YZ) a:Nat):Int)=0+(((cnt (.sl (Yl)) a.1):Nat):Int)+(((cnt (.sl (.str)) a.2.1):Nat):Int)+(((cnt (.sl (Za3)) a.2.2.1):Nat):Int):=by simp only[J5,Zca,J4,J6,Zcb];omega
 obtain ⟨s0,e0⟩:=Zln a.1 (k) hs.1 (by omega) (by omega);obtain ⟨s1,e1⟩:=ZmW a.2.1 (k+(((cnt (.sl (Yl)) a.1):Nat):Int)) hs.2.1 (by omega) (by omega);obtain ⟨s2,e2⟩:=Zo0 a.2.2.1 (k+(((cnt (.sl (Yl)) a.1):Nat):Int)+(((cnt (.sl (.str)) a.2.1):Nat):Int)) hs.2.2.1 (by omega) (by omega);simp only[Bq,e0,e1,e2];exact ⟨_,congrArg some (Prod.ext (by show _=k+_;rw[hc];omega) rfl)⟩
theorem Zo2 (a:List (ZB)) (k:Int) (hs:sm (.sl (ZaB)) a) (h0:0<=k) (h1:k+(cnt (.sl (ZaB)) a:Int)<=4611686018427387904):Mkd (Zf4 a k) k (cnt (.sl (ZaB)) a):=by
 unfold Zf4;have hl:a.length<=1048576:=by have:=hs.1;omega
 refine Mkd.loop (l:=a) (c:=cnt (ZaB)) (λj m x L hj hj' hL hx hxm hm0 hm1 hj2=>?_) (λm L hL=>?_) hl h0 h1
 ·have hsx:=hs.2 x hxm
  have hc:((cnt (ZaB) x:Nat):Int)=0+((cnt (.sl (.int .i64)) x.1:Nat):Int)+((cnt (.sl (.int .i64)) x.2.1:Nat):Int)+((cnt (.sl (.int .i64)) x.2.2.1:Nat):Int)+((cnt (.sl (.int .i64)) x.2.2.2.1:Nat):Int):=by simp only[J5,Zca,J4,J6,Zcb];omega
  obtain ⟨s0,e0⟩:=YS x.1 (m) hsx.1 (by omega) (by omega);obtain ⟨s1,e1⟩:=YS x.2.1 (m+((cnt (.sl (.int .i64)) x.1:Nat):Int)) hsx.2.1 (by omega) (by omega);obtain ⟨s2,e2⟩:=YS x.2.2.1 (m+((cnt (.sl (.int .i64)) x.1:Nat):Int)+((cnt (.sl (.int .i64)) x.2.1:Nat):Int)) hsx.2.2.1 (by omega) (by omega);obtain ⟨s3,e3⟩:=YS x.2.2.2.1 (m+((cnt (.sl (.int .i64)) x.1:Nat):Int)+((cnt (.sl (.int .i64)) x.2.1:Nat):Int)+((cnt (.sl (.int .i64)) x.2.2.1:Nat):Int)) hsx.2.2.2.1 (by omega) (by omega);simp (disch:=omega) only [Zde,if_pos hj',Zp,hx,Bq,YT,Int.toNat_natCast,ZdS,List.length_set,List.set_set,List.getElem?_set_self,e0,e1,e2,e3];refine ⟨_,congrArg some (congrArg Sum.inl (Prod.ext ?_ (Prod.ext ?_ (Prod.ext rfl rfl))))⟩
  ·show _=m+_;rw[hc];omega
  ·simp only;omega
 ·simp only[Zde,Int.lt_irrefl,if_false]
theorem ZoX (a:Zd) (k:Int) (hs:sm (YA) a) (h0:0<=k) (h1:k+((cnt (YA) a:Nat):Int)<=4611686018427387904):Mkd (ZfZ a k) k (cnt (YA) a):=by
 unfold ZfZ;have hc:((cnt (YA) a:Nat):Int)=0+(((cnt (Xf) a.1):Nat):Int)+(((cnt (YZ) a.2.1):Nat):Int)+(((cnt (.sl (ZaB)) a.2.2.1):Nat):Int):=by simp only[J5,Zca,J4,J6,Zcb];omega
 obtain ⟨s0,e0⟩:=ZmV a.1 (k) hs.1 (by omega) (by omega);obtain ⟨s1,e1⟩:=ZnW a.2.1 (k+(((cnt (Xf) a.1):Nat):Int)) hs.2.1 (by omega) (by omega);obtain ⟨s2,e2⟩:=Zo2 a.2.2.1 (k+(((cnt (Xf) a.1):Nat):Int)+(((cnt (YZ) a.2.1):Nat):Int)) hs.2.2.1 (by omega) (by omega);simp only[Bq,e0,e1,e2];exact ⟨_,congrArg some (Prod.ext (by show _=k+_;rw[hc];omega) rfl)⟩
theorem ZnV (a:List (Zc)) (k:Int) (hs:sm (.sl (Xh)) a) (h0:0<=k) (h1:k+(cnt (.sl (Xh)) a:Int)<=4611686018427387904):Mkd (Ze0 a k) k (cnt (.sl (Xh)) a):=by
 unfold Ze0;have hl:a.length<=1048576:=by have:=hs.1;omega
 refine Mkd.loop (l:=a) (c:=cnt (Xh)) (λj m x L hj hj' hL hx hxm hm0 hm1 hj2=>?_) (λm L hL=>?_) hl h0 h1
 ·have hsx:=hs.2 x hxm
  have hc:((cnt (Xh) x:Nat):Int)=0+1+1+1+1+1+1+1+1+1+1+1:=by simp only[J5,Zca,J4,J6,Zcb];omega
  obtain ⟨s0,e0⟩:=Zd5 (m) (by omega) (by omega);have hx2:atI L (j:Int)=some x:=by rw[Zp];exact hx
  have hb:∀ {β:Type} (y:Zc) (F:Zc->Option β),(atI (List.set L j y) (j:Int)).bind F=F y:=λy F=>by rw[ZdS hj];rfl
  simp only[Zcn,if_pos hj',Int.toNat_natCast,hx2,↓hb,Bq,List.set_set,e0];refine Zqy ?_ ?_
  ·have hc:=hc;simp (disch:=omega) only [YT];omega
  ·simp (disch:=omega) only [YT];omega
 ·simp only[Zcn,Int.lt_irrefl,if_false]
theorem Zgr (a:List (Zg)) (k:Int) (hs:sm (.sl (Z5)) a) (h0:0<=k) (h1:k+(cnt (.sl (Z5)) a:Int)<=4611686018427387904):Mkd (Zac a k) k (cnt (.sl (Z5)) a):=by
 unfold Zac;have hl:a.length<=1048576:=by have:=hs.1;omega
 refine Mkd.loop (l:=a) (c:=cnt (Z5)) (λj m x L hj hj' hL hx hxm hm0 hm1 hj2=>?_) (λm L hL=>?_) hl h0 h1
 ·have hsx:=hs.2 x hxm
  have hc:((cnt (Z5) x:Nat):Int)=0+1+1+1+1+1+1:=by simp only[J5,Zca,J4,J6,Zcb];omega
  have hx2:atI L (j:Int)=some x:=by rw[Zp];exact hx
  have hb:∀ {β:Type} (y:Zg) (F:Zg->Option β),(atI (List.set L j y) (j:Int)).bind F=F y:=λy F=>by rw[ZdS hj];rfl
  simp only[ZaU,if_pos hj',Int.toNat_natCast,hx2,↓hb,Bq,List.set_set];refine Zqy ?_ ?_
  ·have hc:=hc;simp (disch:=omega) only [YT];omega
  ·simp (disch:=omega) only [YT];omega
 ·simp only[ZaU,Int.lt_irrefl,if_false]
theorem ZkQ (a:List (Zr)) (k:Int) (hs:sm (.sl (ZO)) a) (h0:0<=k) (h1:k+(cnt (.sl (ZO)) a:Int)<=4611686018427387904):Mkd (Zbl a k) k (cnt (.sl (ZO)) a):=by
 unfold Zbl;have hl:a.length<=1048576:=by have:=hs.1;omega
 refine Mkd.loop (l:=a) (c:=cnt (ZO)) (λj m x L hj hj' hL hx hxm hm0 hm1 hj2=>?_) (λm L hL=>?_) hl h0 h1
 ·have hsx:=hs.2 x hxm
  have hc:((cnt (ZO) x:Nat):Int)=0+1+1+((cnt (.sl (.int .i64)) x.2.2.1:Nat):Int)+((cnt (.sl (.int .i64)) x.2.2.2.1:Nat):Int)+((cnt (.sl (.int .i64)) x.2.2.2.2.1:Nat):Int):=by simp only[J5,Zca,J4,J6,Zcb];omega
  obtain ⟨s0,e0⟩:=YS x.2.2.1 (m+1+1) hsx.2.2.1 (by omega) (by omega);obtain ⟨s1,e1⟩:=YS x.2.2.2.1 (m+1+1+((cnt (.sl (.int .i64)) x.2.2.1:Nat):Int)) hsx.2.2.2.1 (by omega) (by omega);obtain ⟨s2,e2⟩:=YS x.2.2.2.2.1 (m+1+1+((cnt (.sl (.int .i64)) x.2.2.1:Nat):Int)+((cnt (.sl (.int .i64)) x.2.2.2.1:Nat):Int)) hsx.2.2.2.2.1 (by omega) (by omega);simp (disch:=omega) only [Zaw,if_pos hj',Zp,hx,Bq,YT,Int.toNat_natCast,ZdS,List.length_set,List.set_set,List.getElem?_set_self,e0,e1,e2];refine ⟨_,congrArg some (congrArg Sum.inl (Prod.ext ?_ (Prod.ext ?_ (Prod.ext rfl rfl))))⟩
  ·show _=m+_;rw[hc];omega
  ·simp only;omega
 ·simp only[Zaw,Int.lt_irrefl,if_false]
theorem ZmU (a:List (Zt)) (k:Int) (hs:sm (.sl (Yd)) a) (h0:0<=k) (h1:k+(cnt (.sl (Yd)) a:Int)<=4611686018427387904):Mkd (ZdJ a k) k (cnt (.sl (Yd)) a):=by
 unfold ZdJ;have hl:a.length<=1048576:=by have:=hs.1;omega
 refine Mkd.loop (l:=a) (c:=cnt (Yd)) (λj m x L hj hj' hL hx hxm hm0 hm1 hj2=>?_) (λm L hL=>?_) hl h0 h1
 ·have hsx:=hs.2 x hxm
  have hc:((cnt (Yd) x:Nat):Int)=0+1+1+1+1+1:=by simp only[J5,Zca,J4,J6,Zcb];omega
  obtain ⟨s0,e0⟩:=Zd5 (m) (by omega) (by omega);have hx2:atI L (j:Int)=some x:=by rw[Zp];exact hx
  have hb:∀ {β:Type} (y:Zt) (F:Zt->Option β),(atI (List.set L j y) (j:Int)).bind F=F y:=λy F=>by rw[ZdS hj];rfl
  simp only[ZbV,if_pos hj',Int.toNat_natCast,hx2,↓hb,Bq,List.set_set,e0];refine Zqy ?_ ?_
  ·have hc:=hc;simp (disch:=omega) only [YT];omega
  ·simp (disch:=omega) only [YT];omega
 ·simp only[ZbV,Int.lt_irrefl,if_false]
theorem Zo1 (a:Zu) (k:Int) (hs:sm (Vi) a) (h0:0<=k) (h1:k+((cnt (Vi) a:Nat):Int)<=4611686018427387904):Mkd (Zf3 a k) k (cnt (Vi) a):=by
 unfold Zf3;have hc:((cnt (Vi) a:Nat):Int)=0+(((cnt (.sl (Xh)) a.1):Nat):Int)+(((cnt (.sl (Z5)) a.2.1):Nat):Int)+(((cnt (.sl (Z5)) a.2.2.1):Nat):Int)+(((cnt (.sl (ZO)) a.2.2.2.1):Nat):Int)+(((cnt (.sl (Yd)) a.2.2.2.2.1):Nat):Int):=by simp only[J5,Zca,J4,J6,Zcb];omega
 obtain ⟨s0,e0⟩:=ZnV a.1 (k) hs.1 (by omega) (by omega);obtain ⟨s1,e1⟩:=Zgr a.2.1 (k+(((cnt (.sl (Xh)) a.1):Nat):Int)) hs.2.1 (by omega) (by omega);obtain ⟨s2,e2⟩:=Zgr a.2.2.1 (k+(((cnt (.sl (Xh)) a.1):Nat):Int)+(((cnt (.sl (Z5)) a.2.1):Nat):Int)) hs.2.2.1 (by omega) (by omega);obtain ⟨s3,e3⟩:=ZkQ a.2.2.2.1 (k+(((cnt (.sl (Xh)) a.1):Nat):Int)+(((cnt (.sl (Z5)) a.2.1):Nat):Int)+(((cnt (.sl (Z5)) a.2.2.1):Nat):Int)) hs.2.2.2.1 (by omega) (by omega);obtain ⟨s4,e4⟩:=ZmU a.2.2.2.2.1 (k+(((cnt (.sl (Xh)) a.1):Nat):Int)+(((cnt (.sl (Z5)) a.2.1):Nat):Int)+(((cnt (.sl (Z5)) a.2.2.1):Nat):Int)+(((cnt (.sl (ZO)) a.2.2.2.1):Nat):Int)) hs.2.2.2.2.1 (by omega) (by omega);simp only[Bq,e0,e1,e2,e3,e4];exact ⟨_,congrArg some (Prod.ext (by show _=k+_;rw[hc];omega) rfl)⟩
theorem Zz1 (a:Zd) (h:tot YA a<=1048576):cnt YA a<=100+20*1048576:=by
 have hc:=Zte YA a;have h1:wid YA<=100:=by decide
 have h2:Zfs YA<=20:=by decide
 have:=Nat.mul_le_mul_right (tot YA a) h2;omega
theorem ZEz {t:Zw} {n:Nat} (h:ZlJ n t) (hn:n<=1048576):sm QT t :=
 ⟨⟨by rw[show t.1.length=n from h.lr];omega,λx _=>Y4 _ (by rfl) x⟩,⟨by rw[show t.2.1.length=n from h.la];omega,λx _=>Y4 _ (by rfl) x⟩,⟨by rw[show t.2.2.1.length=n from h.ls];omega,λx _=>Y4 _ (by rfl) x⟩,trivial⟩
theorem Zzb {t:Zw} {n:Nat} (h:ZlJ n t) (hn:n<=1048576):cnt QT t<=100+20*4194304:=by
 have hc:=Zte QT t;have h1:wid QT<=100:=by decide
 have h2:Zfs QT<=20:=by decide
 have h4:∀ (u:Ty) (l:List u.den),Ty.fixed u=true->tot (.sl u) l=l.length:=λu l hu=>by rw[ZiK,Zsh hu];omega
 have h3:tot QT t<=4194304:=by
  have e:tot QT t=tot (.sl .bool) t.1+(tot (.sl Xg) t.2.1+(tot (.sl Xg) t.2.2.1+0)):=rfl;rw[e,h4 _ _ rfl,h4 _ _ rfl,h4 _ _ rfl,show t.1.length=n from h.lr,show t.2.1.length=n from h.la,show t.2.2.1.length=n from h.ls];omega
 have:=Nat.mul_le_mul h2 h3;omega
set_option maxHeartbeats 3200000
noncomputable def mt (k:Int):List UInt8:=(Vb k).getD []
theorem ZvB {α:Type} {L:List α} {j:Nat} {z z':α} {A A' B B':Int} (hA:A=A') (hB:B=B') (hz:z=z'):(some (.inl (A,B,List.set L j z,())):Option ((Int×Int×List α×Unit) ⊕ (Int×List α)))=some (.inl (A',B',List.set L j z',())):=by rw[hA,hB,hz]
theorem Zvn {A A' B B':Int} (hA:A=A') (hB:B=B'):(some (.inl (A,B,())):Option ((Int×Int×Unit) ⊕ Int))=some (.inl (A',B',())):=by rw[hA,hB]
theorem ZoY (l:List (Bool)) (k:Int) (hs:sm (.sl (.bool)) l) (h0:0<=k) (h1:k+((cnt (.sl (.bool)) l:Nat):Int)<=4611686018427387904):Zf0 l k=some (k+((cnt (.sl (.bool)) l:Nat):Int),mkL (mkA mt (.bool)) (cnt (.bool)) l k):=by
 unfold Zf0;have hl:l.length<=1048576:=by have:=hs.1;omega
 refine ZDf (f:=mkA mt (.bool)) (c:=cnt (.bool)) (λj m x L hj hj' hx hxm hm0 hm1 hj2=>?_) (λm L=>?_) hl h0 h1
 ·have hsx:=hs.2 x hxm
  have hc:((cnt (.bool) x:Nat):Int)=0+1:=by rfl
  simp (disch:=omega) only [Zda,if_pos hj',Zp,hx,Bq,YT,Int.toNat_natCast,ZdS,List.length_set,List.set_set,List.getElem?_set_self];refine ZvB ?_ ?_ rfl
  ·have hc:=hc;omega
  ·omega
 ·simp only[Zda,Int.lt_irrefl,if_false]
theorem Zjd (l:List (Zx)) (k:Int) (hs:sm (.sl (Xg)) l) (h0:0<=k) (h1:k+((cnt (.sl (Xg)) l:Nat):Int)<=4611686018427387904):Zdx l k=some (k+((cnt (.sl (Xg)) l:Nat):Int),mkL (mkA mt (Xg)) (cnt (Xg)) l k):=by
 unfold Zdx;have hl:l.length<=1048576:=by have:=hs.1;omega
 refine ZDf (f:=mkA mt (Xg)) (c:=cnt (Xg)) (λj m x L hj hj' hx hxm hm0 hm1 hj2=>?_) (λm L=>?_) hl h0 h1
 ·have hsx:=hs.2 x hxm
  have hc:((cnt (Xg) x:Nat):Int)=0+1+1:=by simp only[J5,Zca,J4,J6,Zcb];omega
  have hx2:atI L (j:Int)=some x:=by rw[Zp];exact hx
  have hb:∀ {β:Type} (y:Zx) (F:Zx->Option β),(atI (List.set L j y) (j:Int)).bind F=F y:=λy F=>by rw[ZdS hj];rfl
  simp only[Zdd,if_pos hj',Int.toNat_natCast,hx2,↓hb,Bq,List.set_set];refine ZvB ?_ ?_ ?_
  ·have hc:=hc;simp (disch:=omega) only [YT];omega
  ·simp (disch:=omega) only [YT];omega
  ·simp (disch:=omega) only [YT];rfl
 ·simp only[Zdd,Int.lt_irrefl,if_false]
theorem ZnX (a:Zw) (k:Int) (hs:sm (QT) a) (h0:0<=k) (h1:k+((ZyD (QT) a:Nat):Int)<=4611686018427387904):Ze2 a k=some (k+((ZyD (QT) a:Nat):Int),mkT mt (QT) a k):=by
 unfold Ze2;have hc:((ZyD (QT) a:Nat):Int)=0+(((cnt (.sl (.bool)) a.1):Nat):Int)+(((cnt (.sl (Xg)) a.2.1):Nat):Int)+(((cnt (.sl (Xg)) a.2.2.1):Nat):Int):=by simp only[ZyD];omega
 have e0:=ZoY a.1 (k) hs.1 (by omega) (by omega);have e1:=Zjd a.2.1 (k+(((cnt (.sl (.bool)) a.1):Nat):Int)) hs.2.1 (by omega) (by omega);have e2:=Zjd a.2.2.1 (k+(((cnt (.sl (.bool)) a.1):Nat):Int)+(((cnt (.sl (Xg)) a.2.1):Nat):Int)) hs.2.2.1 (by omega) (by omega);simp only[Bq,e0,e1,e2];refine congrArg some (Prod.ext (by show _=k+_;rw[hc];omega) rfl)
theorem ZoW (l:List (Bool)) (k:Int) (hs:sm (.sl (.bool)) l) (h0:0<=k) (h1:k+((cnt (.sl (.bool)) l:Nat):Int)<=4611686018427387904):ZfY (mkL (mkA mt (.bool)) (cnt (.bool)) l k) k=some (k+((cnt (.sl (.bool)) l:Nat):Int)):=by
 unfold ZfY;have hl:l.length<=1048576:=by have:=hs.1;omega
 refine ZxM (f:=mkA mt (.bool)) (c:=cnt (.bool)) (step:=λv=>ZaI (mkL (mkA mt (.bool)) (cnt (.bool)) l k) v.1 v.2.1) (λj m x hj hx hxm hm0 hm1 hj2=>?_) (λm=>?_) hl h0 h1
 ·have hsx:=hs.2 x hxm
  have hc:((cnt (.bool) x:Nat):Int)=0+1:=by rfl
  have f0:mkA mt (.bool) x m=decide (Int.tmod (m) 3=0):=rfl;simp (disch:=omega) only [ZaI,if_pos hj,Zp,hx,Bq,YT,eq_self,if_true,if_false,beq_self_eq_true,f0];refine Zvn ?_ ?_
  ·have hc:=hc;omega
  ·omega
 ·simp only[ZaI,Int.lt_irrefl,if_false]
theorem Zjc (l:List (Zx)) (k:Int) (hs:sm (.sl (Xg)) l) (h0:0<=k) (h1:k+((cnt (.sl (Xg)) l:Nat):Int)<=4611686018427387904):Zdw (mkL (mkA mt (Xg)) (cnt (Xg)) l k) k=some (k+((cnt (.sl (Xg)) l:Nat):Int)):=by
 unfold Zdw;have hl:l.length<=1048576:=by have:=hs.1;omega
 refine ZxM (f:=mkA mt (Xg)) (c:=cnt (Xg)) (step:=λv=>ZaJ (mkL (mkA mt (Xg)) (cnt (Xg)) l k) v.1 v.2.1) (λj m x hj hx hxm hm0 hm1 hj2=>?_) (λm=>?_) hl h0 h1
 ·have hsx:=hs.2 x hxm
  have hc:((cnt (Xg) x:Nat):Int)=0+1+1:=by simp only[J5,Zca,J4,J6,Zcb];omega
  have f0:Zx.Early (mkA mt (Xg) x m)=m:=rfl;have f1:Zx.Late (mkA mt (Xg) x m)=m+1:=rfl;simp (disch:=omega) only [ZaJ,if_pos hj,Zp,hx,Bq,YT,eq_self,if_true,if_false,beq_self_eq_true,f0,f1];refine Zvn ?_ ?_
  ·have hc:=hc;omega
  ·omega
 ·simp only[ZaJ,Int.lt_irrefl,if_false]
theorem ZnU (a:Zw) (k:Int) (hs:sm (QT) a) (h0:0<=k) (h1:k+((ZyD (QT) a:Nat):Int)<=4611686018427387904):ZeZ (mkT mt (QT) a k) k=some (k+((ZyD (QT) a:Nat):Int)):=by
 unfold ZeZ;have hc:((ZyD (QT) a:Nat):Int)=0+(((cnt (.sl (.bool)) a.1):Nat):Int)+(((cnt (.sl (Xg)) a.2.1):Nat):Int)+(((cnt (.sl (Xg)) a.2.2.1):Nat):Int):=by simp only[ZyD];omega
 have f0:Zw.Reached (mkT mt (QT) a k)=mkL (mkA mt (.bool)) (cnt (.bool)) a.1 (k):=by rfl
 have n0:¬(k+(((cnt (.sl (.bool)) a.1):Nat):Int))<0:=by omega
 have e0:=ZoW a.1 (k) hs.1 (by omega) (by omega);have f1:Zw.Ye (mkT mt (QT) a k)=mkL (mkA mt (Xg)) (cnt (Xg)) a.2.1 (k+(((cnt (.sl (.bool)) a.1):Nat):Int)):=by rfl
 have n1:¬(k+(((cnt (.sl (.bool)) a.1):Nat):Int)+(((cnt (.sl (Xg)) a.2.1):Nat):Int))<0:=by omega
 have e1:=Zjc a.2.1 (k+(((cnt (.sl (.bool)) a.1):Nat):Int)) hs.2.1 (by omega) (by omega);have f2:Zw.QU (mkT mt (QT) a k)=mkL (mkA mt (Xg)) (cnt (Xg)) a.2.2.1 (k+(((cnt (.sl (.bool)) a.1):Nat):Int)+(((cnt (.sl (Xg)) a.2.1):Nat):Int)):=by rfl
 have n2:¬(k+(((cnt (.sl (.bool)) a.1):Nat):Int)+(((cnt (.sl (Xg)) a.2.1):Nat):Int)+(((cnt (.sl (Xg)) a.2.2.1):Nat):Int))<0:=by omega
 have e2:=Zjc a.2.2.1 (k+(((cnt (.sl (.bool)) a.1):Nat):Int)+(((cnt (.sl (Xg)) a.2.1):Nat):Int)) hs.2.2.1 (by omega) (by omega);simp only[Bq,if_false,f0,n0,e0,f1,n1,e1,f2,n2,e2];refine congrArg some ?_;omega
theorem ZyI (a:Zu) (h:tot Vi a<=1048576):cnt Vi a<=100+20*1048576:=by
 have hc:=Zte Vi a;have h1:wid Vi<=100:=by decide
 have h2:Zfs Vi<=20:=by decide
 have:=Nat.mul_le_mul_right (tot Vi a) h2;omega
theorem Zh4 (a0:Zd) (a1:Zu) (a2:Int) (b0:bnd YA a0) (b1:bnd Vi a1) (b2:bnd (.int .i64) a2):Va a0 a1 a2=some true:=by
 unfold Va;obtain ⟨n,e,hle,hP⟩:=Zrt a0 1048576 (by omega) (by omega) b0;rw[e,Bq];by_cases hn:n<0
 ·rw[if_pos hn]
 rw[if_neg hn];have hs:=hP (by omega);have ht:=Zp4 a0 1048576 (by omega) (by omega) b0 n e (by omega);obtain ⟨n1,e1,hle1,hP1⟩:=Zrz a1 n (by omega) (by omega) b1;rw[e1,Bq];by_cases hn1:n1<0
 ·rw[if_pos hn1]
 rw[if_neg hn1];have hs1:=hP1 (by omega);have ht1:=Zqa a1 n (by omega) (by omega) b1 n1 e1 (by omega);have hcb:=Zz1 a0 (by omega);have hcs:=ZyI a1 (by omega);obtain ⟨r,c1,c2,hq⟩:=ZvV a0 a1 a2 hs hs1;obtain ⟨rn,c3,c4⟩:∃ rn,ZlJ rn r.1/\rn<=1048576:=by
  rcases hq with ⟨_,x,v,hR,_⟩ | ⟨_,h⟩
  ·have:=Zhe hR.blk
   exact ⟨Vp a0,hR.is.tb,by omega⟩
  ·rw[h]
   exact ⟨0,⟨rfl,rfl,rfl,λs hs=>by cases hs⟩,by omega⟩
 have d1:=ZEz c3 c4;have d2:=Zzb c3 c4;have d3:=Zws QT r.1;obtain ⟨m0,hm0⟩:=ZoX a0 1 hs (by omega) (by omega);obtain ⟨m1,hm1⟩:=Zo1 a1 (1+((cnt YA a0:Nat):Int)) hs1 (by omega) (by omega);have hm3:=ZnX r.1 1 d1 (by omega) (by omega);have hm4:=ZnU r.1 1 d1 (by omega) (by omega);have hneg:¬(1+((cnt YA a0:Nat):Int)+((cnt Vi a1:Nat):Int))<0:=by omega
 have hneg2:¬(1+((ZyD QT r.1:Nat):Int))<0:=by omega
 simp only[ZrC _ hs,ZrG _ hs1,Bq,c1,c2,Zp1 _ d1,Zrk _ hs,Zrp _ hs1,if_true,hm0,hm1,hm3,hm4,hneg,hneg2,if_false]
end Go.Proofs.YtpkjbcbepmpddaaGreatDoor
