/-
  Plain laws: sessions; the law FnExactIsSession.
-/
import Derived.Test.YtepbknolmhmipaaGreatDoorLB
import Derived.Test.YtepbknolmhmipaaGreatDoorLA
import Derived.Test.YtepbknolmhmipaaGreatDoorM
import Derived.Test.YtepbknolmhmipaaGreatDoorE1
import Derived.Lib.ItoaNum
import Derived.Lib.Join
namespace Go.Proofs.YtepbknolmhmipaaGreatDoor
set_option linter.unusedVariables false
set_option linter.unusedSimpArgs false
open Go Go.Sx
abbrev ZKD:=Int×(List Zk)×(List Zl)×(List (List UInt8))×(List Ye)×(List Zx)×(List Zc)×(List Zh)×(List Zh)×(List Ze)×(List Zm)×Unit
abbrev stR (k:Nat) (b:Zj) (s:Zo):ZKD:=((k:Int),Zt.Cells (Zj.Library b),Zg.Instances (Zj.Design b),Zg.X7 (Zj.Design b),Zg.Xb (Zj.Design b),Zj.Qg b,Zo.Yk s,Zo.Zbb s,Zo.Vp s,Zo.Exceptions s,Zo.X5 s,())
noncomputable abbrev ZHx (l:List ZgL):=Zq (λ(v:ZKD)=>ZA5 l v.1 v.2.1 v.2.2.1 v.2.2.2.1 v.2.2.2.2.1 v.2.2.2.2.2.1 v.2.2.2.2.2.2.1 v.2.2.2.2.2.2.2.1 v.2.2.2.2.2.2.2.2.1 v.2.2.2.2.2.2.2.2.2.1 v.2.2.2.2.2.2.2.2.2.2.1)
noncomputable abbrev ZHy (l:List ZgL):=Zq (λ(v:ZKD)=>ZAB l v.1 v.2.1 v.2.2.1 v.2.2.2.1 v.2.2.2.2.1 v.2.2.2.2.2.1 v.2.2.2.2.2.2.1 v.2.2.2.2.2.2.2.1 v.2.2.2.2.2.2.2.2.1 v.2.2.2.2.2.2.2.2.2.1 v.2.2.2.2.2.2.2.2.2.2.1)
theorem ZDw {b:Zj} {e:ZgL} (h:ZCe b e) (he:sm Zug e) (hc0:ZA0 b e=some 0) {s:Zo} (hs:sm Vh s) (hS:Znb (Zw (Zj.Design b)) s) :
  ∃ r y,ZAp e b=some r/\ZdN r/\Zj.Library r=Zj.Library b/\ZBp b e=some y/\
   ZAM e b s=some (sel (ZBe b e s r) (ZFZ (after b e) s,true) (ZES,false))/\
   (ZBe b e s r->ZAC b s e=some (r,ZFZ (after b e) s,y,0))/\(¬ZBe b e s r->∃ q1 q2 q3,ZAC b s e=some (q1,q2,q3,5)):=by
 obtain ⟨r,r1,r2,r3,r4,r5,r6⟩:=ZET h he hc0 hs hS;obtain ⟨y,y2⟩:=ZKs h;refine ⟨r,y,r1,r3,r4,y2,r5,λq=>?_,λq=>?_⟩
 ·unfold ZAC
  rw[r6,YS q,Bq,if_pos rfl,r2,Bq,y2,Bq]
 ·unfold ZAC
  rw[r6,YC q,Bq,if_neg (by decide)];exact ⟨_,_,_,rfl⟩
theorem ZJQ {l:List ZgL} (hl:sm (.sl Zug) l):∀ (m k:Nat) (b:Zj) (s:Zo),k+m=l.length->ZdN b->sm Vh s->Znb (Zw (Zj.Design b)) s->∃ c,ZHx l (stR k b s)=some c/\ZHy l (stR k b s)=some c
 | 0,k,b,s,hk,hB,hs,hS=>by
  refine ⟨decide ((l.length:Int)<=10),ZeP ?_,ZeP ?_⟩
  ·simp only[ZA5]
   rw[if_neg (by omega)]
  ·simp only[ZAB]
   rw[if_neg (by omega)]
 | m+1,k,b,s,hk,hB,hs,hS=>by
  have hlt:k<l.length:=by omega
  have hsml:=Zv hl;have hx:l[k]?=some l[k]:=List.getElem?_eq_getElem hlt;generalize l[k]=x at hx;have hxs:sm Zug x:=ZeM hl hx;obtain ⟨c,c1,c2,c3⟩:=ZDY hB x hxs;have c1':ZBx x ((Zt.Cells (Zj.Library b),()),(Zg.Instances (Zj.Design b),Zg.X7 (Zj.Design b),Zg.Xb (Zj.Design b),()),Zj.Qg b,())=some c:=c1;by_cases hc:c=0
  ·have hC:=c3 hc
   obtain ⟨r,y,r1,r3,r4,y1,r5,r6,r7⟩:=ZDw hC hxs (by rw[c2,hc]) hs hS;have r1':ZAp x ((Zt.Cells (Zj.Library b),()),(Zg.Instances (Zj.Design b),Zg.X7 (Zj.Design b),Zg.Xb (Zj.Design b),()),Zj.Qg b,())=some r:=r1;have r5':ZAM x ((Zt.Cells (Zj.Library b),()),(Zg.Instances (Zj.Design b),Zg.X7 (Zj.Design b),Zg.Xb (Zj.Design b),()),Zj.Qg b,()) (Zo.Yk s,Zo.Zbb s,Zo.Vp s,Zo.Exceptions s,Zo.X5 s,())=some (sel (ZBe b x s r) (ZFZ (after b x) s,true) (ZES,false)):=r5;by_cases q:ZBe b x s r
   ·have r6':ZAC ((Zt.Cells (Zj.Library b),()),(Zg.Instances (Zj.Design b),Zg.X7 (Zj.Design b),Zg.Xb (Zj.Design b),()),Zj.Qg b,()) (Zo.Yk s,Zo.Zbb s,Zo.Vp s,Zo.Exceptions s,Zo.X5 s,()) x=some (r,ZFZ (after b x) s,y,0):=r6 q
    obtain ⟨c',d1,d2⟩:=ZJQ hl m (k+1) r (ZFZ (after b x) s) (by omega) r3 (ZFG hs) q.2.2;have s1:ZHx l (stR k b s)=ZHx l (stR (k+1) r (ZFZ (after b x) s)):=Zgw (by
     simp only[ZA5];rw[if_pos (by omega),Zu,hx,Bq,c1',Bq,if_pos hc,r5',YS q,Bq,if_pos rfl,r1',Bq,Jb (show k<=1048576 by omega)])
    have s2:ZHy l (stR k b s)=ZHy l (stR (k+1) r (ZFZ (after b x) s)):=Zgw (by
     simp only[ZAB];rw[if_pos (by omega),Zu,hx,Bq,r6',Bq,if_pos rfl,Jb (show k<=1048576 by omega)])
    exact ⟨c',by rw[s1];exact d1,by rw[s2];exact d2⟩
   ·obtain ⟨q1,q2,q3,r7⟩:=r7 q
    have r7':ZAC ((Zt.Cells (Zj.Library b),()),(Zg.Instances (Zj.Design b),Zg.X7 (Zj.Design b),Zg.Xb (Zj.Design b),()),Zj.Qg b,()) (Zo.Yk s,Zo.Zbb s,Zo.Vp s,Zo.Exceptions s,Zo.X5 s,()) x=some (q1,q2,q3,5):=r7;refine ⟨false,ZeP ?_,ZeP ?_⟩
    ·simp only[ZA5]
     rw[if_pos (by omega),Zu,hx,Bq,c1',Bq,if_pos hc,r5',YC q,Bq,if_neg (by decide)]
    ·simp only[ZAB]
     rw[if_pos (by omega),Zu,hx,Bq,r7',Bq,if_neg (show ¬(5:Int)=0 by decide)]
  ·have e2:∃ q1 q2 q3,ZAC ((Zt.Cells (Zj.Library b),()),(Zg.Instances (Zj.Design b),Zg.X7 (Zj.Design b),Zg.Xb (Zj.Design b),()),Zj.Qg b,()) (Zo.Yk s,Zo.Zbb s,Zo.Vp s,Zo.Exceptions s,Zo.X5 s,()) x=some (q1,q2,q3,c):=by
    show ∃ q1 q2 q3,ZAC b s x=_;unfold ZAC ZAS;rw[c2,Bq,if_neg hc,Bq,if_neg hc];exact ⟨_,_,_,rfl⟩
   obtain ⟨q1,q2,q3,e2⟩:=e2;refine ⟨false,ZeP ?_,ZeP ?_⟩
   ·simp only[ZA5]
    rw[if_pos (by omega),Zu,hx,Bq,c1',Bq,if_neg hc]
   ·simp only[ZAB]
    rw[if_pos (by omega),Zu,hx,Bq,e2,Bq,if_neg hc]
theorem ZIh {l:List ZgL} (hl:sm (.sl Zug) l) (h10:¬(l.length:Int)<=10):∀ (m k:Nat) (b:Zj) (s:Zo),k+m=l.length->ZdN b->sm Vh s->Znb (Zw (Zj.Design b)) s->ZHy l (stR k b s)=some false
 | 0,k,b,s,hk,hB,hs,hS=>by
  refine ZeP ?_;simp only[ZAB];rw[if_neg (by omega),decide_eq_false h10]
 | m+1,k,b,s,hk,hB,hs,hS=>by
  have hlt:k<l.length:=by omega
  have hsml:=Zv hl;have hx:l[k]?=some l[k]:=List.getElem?_eq_getElem hlt;generalize l[k]=x at hx;have hxs:sm Zug x:=ZeM hl hx;obtain ⟨c,c1,c2,c3⟩:=ZDY hB x hxs;by_cases hc:c=0
  ·have hC:=c3 hc
   obtain ⟨r,y,r1,r3,r4,y1,r5,r6,r7⟩:=ZDw hC hxs (by rw[c2,hc]) hs hS;by_cases q:ZBe b x s r
   ·have r6':ZAC ((Zt.Cells (Zj.Library b),()),(Zg.Instances (Zj.Design b),Zg.X7 (Zj.Design b),Zg.Xb (Zj.Design b),()),Zj.Qg b,()) (Zo.Yk s,Zo.Zbb s,Zo.Vp s,Zo.Exceptions s,Zo.X5 s,()) x=some (r,ZFZ (after b x) s,y,0):=r6 q
    have s2:ZHy l (stR k b s)=ZHy l (stR (k+1) r (ZFZ (after b x) s)):=Zgw (by
     simp only[ZAB];rw[if_pos (by omega),Zu,hx,Bq,r6',Bq,if_pos rfl,Jb (show k<=1048576 by omega)])
    rw[s2];exact ZIh hl h10 m (k+1) r (ZFZ (after b x) s) (by omega) r3 (ZFG hs) q.2.2
   ·obtain ⟨q1,q2,q3,r7⟩:=r7 q
    have r7':ZAC ((Zt.Cells (Zj.Library b),()),(Zg.Instances (Zj.Design b),Zg.X7 (Zj.Design b),Zg.Xb (Zj.Design b),()),Zj.Qg b,()) (Zo.Yk s,Zo.Zbb s,Zo.Vp s,Zo.Exceptions s,Zo.X5 s,()) x=some (q1,q2,q3,5):=r7;refine ZeP ?_;simp only[ZAB];rw[if_pos (by omega),Zu,hx,Bq,r7',Bq,if_neg (show ¬(5:Int)=0 by decide)]
  ·have e2:∃ q1 q2 q3,ZAC ((Zt.Cells (Zj.Library b),()),(Zg.Instances (Zj.Design b),Zg.X7 (Zj.Design b),Zg.Xb (Zj.Design b),()),Zj.Qg b,()) (Zo.Yk s,Zo.Zbb s,Zo.Vp s,Zo.Exceptions s,Zo.X5 s,()) x=some (q1,q2,q3,c):=by
    show ∃ q1 q2 q3,ZAC b s x=_;unfold ZAC ZAS;rw[c2,Bq,if_neg hc,Bq,if_neg hc];exact ⟨_,_,_,rfl⟩
   obtain ⟨q1,q2,q3,e2⟩:=e2;refine ZeP ?_;simp only[ZAB];rw[if_pos (by omega),Zu,hx,Bq,e2,Bq,if_neg hc]
theorem ZFV {s:ZdQ} (h:sm Zth s):sm Xz (ZdQ.Block s)/\sm Vh (ZdQ.Setup s)/\sm (.sl Zug) (ZdQ.Zyu s)/\sm (.sl Zug) (ZdQ.Zyt s):=⟨h.1,h.2.1,h.2.2.1,h.2.2.2.1⟩
theorem ZH9 {b:Zj} {s:Zo} (hB:ZdN b) (hs:sm Vh s) (hS:Znb (Zw (Zj.Design b)) s) {l:List ZgL} (hl:sm (.sl Zug) l):∃ c,ZDP b s l=some c/\ZDl b s l=some c/\(¬(l.length:Int)<=10->c=false):=by
 obtain ⟨c,c1,c2⟩:=ZJQ hl l.length 0 b s (by omega) hB hs hS;refine ⟨c,c1,c2,λh=>?_⟩;have:=ZIh hl h l.length 0 b s (by omega) hB hs hS;rw[c2] at this;injection this
theorem ZFc (s:ZdQ) (h:sm Zth s):∃ c,ZFr s=some c/\ZCw s=some c/\(c=true->ZqT (ZdQ.Block s) (ZdQ.Setup s)/\((ZdQ.Zyu s).length:Int)<=10/\((ZdQ.Zyt s).length:Int)<=10/\ZDP (ZdQ.Block s) (ZdQ.Setup s) (ZdQ.Zyu s)=some true/\ZDP (ZdQ.Block s) (ZdQ.Setup s) (ZdQ.Zyt s)=some true):=by
 obtain ⟨h1,h2,h3,h4⟩:=ZFV h;unfold ZFr ZCw;rw[ZCW _ _ h1 h2,Zl6 _ _ h1 h2,Bq,Bq];by_cases hS:ZqT (ZdQ.Block s) (ZdQ.Setup s)
 ·have hB:ZdN (ZdQ.Block s):=⟨hS.1,h1⟩
  rw[if_pos (Yf hS),if_pos (Yf hS)];obtain ⟨c,c1,c2,c3⟩:=ZH9 hB h2 hS.2 h3;obtain ⟨d,d1,d2,d3⟩:=ZH9 hB h2 hS.2 h4;rw[c2,Bq];by_cases u:((ZdQ.Zyu s).length:Int)<=10
  ·rw[if_pos u]
   by_cases w:((ZdQ.Zyt s).length:Int)<=10
   ·rw[if_pos w,c1,Bq]
    cases c
    ·exact ⟨false,rfl,rfl,λq=>by cases q⟩
    ·rw[if_pos rfl,if_pos rfl,d1,d2,Bq]
     exact ⟨d,rfl,rfl,λq=>⟨hS,u,w,rfl,by rw[q]⟩⟩
   ·rw[if_neg w,d2,d3 w,Bq]
    cases c
    ·exact ⟨false,rfl,rfl,λq=>by cases q⟩
    ·exact ⟨false,rfl,rfl,λq=>by cases q⟩
  ·rw[if_neg u,c3 u]
   exact ⟨false,rfl,rfl,λq=>by cases q⟩
 ·rw[if_neg (λq=>hS ((QM _).1 q)),if_neg (λq=>hS ((QM _).1 q))]
  exact ⟨false,rfl,rfl,λq=>by cases q⟩
theorem ZI3 {α:Type} {p:α->Bool} {l:List α} {k:Nat} {x:α} (hx:l[k]?=some x) (hp:p x=true) (hf:∀ (j:Nat) (y:α),j<k->l[j]?=some y->p y=false):Zdq p l=(k:Int):=by
 have hk:=(List.getElem?_eq_some_iff.1 hx);have:l.findIdx? p=some k:=by
  rw[List.findIdx?_eq_some_iff_getElem];refine ⟨hk.1,by rw[hk.2];exact hp,λj hj=>?_⟩;have:=hf j (l[j]'(by have:=hk.1;omega)) hj (List.getElem?_eq_getElem _);simp[this]
 unfold Zdq;rw[this]
theorem ZFa (d:Zg) (hf:Few d) {k:Nat} {p:Pl} (hp:(Zw d)[k]?=some p):ZBD d p.1 p.2.1=some (k:Int):=by
 have hpl:=V9 hf;unfold ZBD;rw[Q5 _ hf,Bq,ZAZ (l:=Zw d) (f:=(p.1,p.2.1,())) (show (Zw d).length<=_ by omega) (λq=>decide (q.1=p.1)&&decide (q.2.1=p.2.1)) (λq _=>by
  unfold ZBK;show (if q.1=p.1 then some (decide (q.2.1=p.2.1)) else some false)=_;by_cases h1:q.1=p.1
  ·rw[if_pos h1,decide_eq_true h1,Bool.true_and]
  ·rw[if_neg h1,decide_eq_false h1,Bool.false_and]),Bq]
 congr 1;refine ZI3 hp (by simp) (λj y hj hy=>?_);cases hq:(decide (y.1=p.1)&&decide (y.2.1=p.2.1)) with
 | false=>rfl
 | true =>
  simp only[Bool.and_eq_true,decide_eq_true_eq] at hq;have:=key_inj hy hp hq.1 hq.2;omega
theorem ZHS {b:Zj} (hn:0<(Zg.Instances (Zj.Design b)).length) {x:Zl} (hx:(Zg.Instances (Zj.Design b))[(Zg.Instances (Zj.Design b)).length-1]?=some x) (hl2:(Zl.X7 x).length=2) {k:Nat} {p:Pl} {m:Int} (hp:(Zw (Zj.Design b))[k]?=some p) (hpi:p.1≠((Zg.Instances (Zj.Design b)).length:Int)-1) :
  (p.1<0->2<=k)/\(Zw (unD b p m))[if p.1<0 then k-2 else k]?=some (p.1,p.2.1,m,p.2.2.2.1,()):=by
 have hD:(Zw (ZAE (Zj.Design b) p.1 p.2.1 m))[k]?=some (p.1,p.2.1,m,p.2.2.2.1,()):=by
  rw[ZAD hp,List.getElem?_set_self (List.getElem?_eq_some_iff.1 hp).1]
 have hn2:0<(Zg.Instances (ZAE (Zj.Design b) p.1 p.2.1 m)).length:=by rw[ZAA];exact hn
 have hx3:(Zg.Instances (ZAE (Zj.Design b) p.1 p.2.1 m))[(Zg.Instances (ZAE (Zj.Design b) p.1 p.2.1 m)).length-1]?=some ((Zg.Instances (ZAE (Zj.Design b) p.1 p.2.1 m))[(Zg.Instances (ZAE (Zj.Design b) p.1 p.2.1 m)).length-1]'(by omega)):=List.getElem?_eq_getElem _;generalize (Zg.Instances (ZAE (Zj.Design b) p.1 p.2.1 m))[(Zg.Instances (ZAE (Zj.Design b) p.1 p.2.1 m)).length-1]'(by omega)=x' at hx3;have hx4:(Zl.X7 x').length=2:=by
  obtain ⟨y,hy,_,_,hyl,_⟩:=ZDb hx3;rw[ZAA,hx] at hy;injection hy with hy
  rw[hyl,<-hy,hl2]
 have hin:=ZGT hn2 hx3;have hil:ZAv (ZAE (Zj.Design b) p.1 p.2.1 m)=ZAv (unD b p m)+2:=by
  unfold ZAv unD;rw[hin,ZmP,List.length_append];simp only[cat,List.append_nil,ZAY,hx4]
 rcases ZBg hD with ⟨i,j,y,n,hy,hnj,e,hq⟩ | ⟨j,q,hq,e,hq2⟩
 ·have e1:p.1=(i:Int):=by
   have:=congrArg Prod.fst hq;simpa[ZCC] using this
  have hi:=(List.getElem?_eq_some_iff.1 hy).1;rw[ZAA] at hi;refine ⟨λh=>by omega,?_⟩;rw[if_neg (by omega)];have hy2:(Zg.Instances (unD b p m))[i]?=some y:=by
   show ((Zg.Instances (ZAE (Zj.Design b) p.1 p.2.1 m)).take _)[i]?=some y;rw[List.getElem?_take,if_pos (by rw[ZAA];omega),hy]
  have h5:=ZDs hy2 hnj;have e2:ZEz (unD b p m) i=ZEz (ZAE (Zj.Design b) p.1 p.2.1 m) i:=by
   unfold ZEz;show (cat Zhx 0 (((Zg.Instances (ZAE (Zj.Design b) p.1 p.2.1 m)).take _).take i)).length=_;rw[List.take_take,Nat.min_eq_left (by rw[ZAA];omega)]
  rw[e2,<-e] at h5;rw[h5,hq]
 ·have e1:p.1=-1:=congrArg Prod.fst hq2
  refine ⟨λ_=>by omega,?_⟩;rw[if_pos (by omega)];have h5:=ZE4 (d:=unD b p m) (x:=x') (s:=[]) (k:=k-2) (by omega);rw[hx4,show k-2+2=k by omega] at h5;rw[<-h5];unfold unD;rw[<-ZEn hn2 hx3];exact hD
theorem ZIW:sm (.sl (.int .i64)) ([]:List Int):=⟨by simp,λ_ _=>trivial⟩
theorem ZDz:sm Za9 (([]:List Int),([]:List Int),([]:List Int),([]:List Int),()):=⟨ZIW,ZIW,ZIW,ZIW,trivial⟩
theorem ZD1:sm .str ([]:List UInt8):=by show ((0:Nat):Int)<=_;omega
theorem ZEG {a b c d e:Int} {s:List UInt8} {w:Zx} (hs:sm .str s) (hw:sm Za9 w):sm Zug (a,b,c,d,e,s,w,()):=⟨trivial,trivial,trivial,trivial,trivial,hs,hw,trivial⟩
theorem ZI5 {b:Zj} {e:ZgL} (h:ZCe b e):∃ r,ZAr e b=some r/\ZBp b e=some r/\sm Zug r:=by
 have hB:=h.blk;have hf:=hB.ok.1.few;have hpl:=V9 hf;have h30:=hB.ok.1.2.1.2.1;have hwn:=hB.ok.2.1;obtain ⟨b1,b2,b3⟩:=ZnM hB.sm;unfold ZAr ZBp;rw[QA _ hf,Bq];by_cases k1:ZgL.Kind e=1
 ·obtain ⟨p,x,c,c2,hp,h0,_,hx,_⟩:=h.poss.1 k1
  rw[if_pos k1,if_pos k1,Q5 _ hf,Bq,hp.at,Bq];have e1:YA.instance p=p.1:=rfl;have e2:Ya.instance p=p.1:=rfl;simp only[e1,e2,hx,Bq];exact ⟨_,rfl,rfl,ZEG ZD1 ZDz⟩
 rw[if_neg k1,if_neg k1];by_cases k2:ZgL.Kind e=2
 ·rw[if_pos k2,if_pos k2]
  exact ⟨_,rfl,rfl,ZEG ZD1 ZDz⟩
 rw[if_neg k2,if_neg k2];by_cases k3:ZgL.Kind e=3
 ·rw[if_pos k3,if_pos k3]
  have hL:=h.poss.2.2.1 k3;obtain ⟨hn,x,hx,hl2⟩:=hL.two;obtain ⟨k,p,m,v,hs,hp,hpi,_,_,hun⟩:=ZCs hB hL;have h14:=hf.insts;have hx2:atI (Zg.Instances (Zj.Design b)) (((Zg.Instances (Zj.Design b)).length:Int)-1)=some x:=Zbc (by omega) (by rw[<-hx];congr 1;omega);obtain ⟨hk2,hpu⟩:=ZHS (m:=m) hn hx hl2 hp hpi;have hk:=(List.getElem?_eq_some_iff.1 hp).1;have hpo:=ZFa (unD b p m) (hf.ZAE p.1 p.2.1 m).cut hpu;have hsx:sm YJ x:=ZeM (Zjh b2).1 hx;rw[ZAR _ hB.sm,Bq,hun,Bq,Zar (n:=((Zg.Instances (Zj.Design b)).length:Int)-1) (by omega) (by omega),hx2,Bq,Bq,
   Zar (n:=((Zj.Qg b).length:Int)-1) (by omega) (by omega),hwn,ZkH _ _ hf,Bq,hs,show atI [(k:Int)] 0=some (k:Int) from rfl,Bq,Zu,hp,Bq]
  have hpo2:ZBD (Zj.Design ((Zj.Library b,unD b p m,ZBt (Zw (unD b p m)) ((Zj.Qg b).take ((Zj.Qg b).length-1)) (ZHb (λj=>if j=k then v else ZAz b j) (ZAv (unD b p m))),()):Zj)) p.1 p.2.1=some (((if p.1<0 then k-2 else k:Nat):Nat):Int):=hpo;rw[show Ya.instance p=p.1 from rfl];refine ⟨(2,(((if p.1<0 then k-2 else k:Nat):Nat):Int),Zl.Cell x,0,0,Zl.Name x,([],[],[],[],()),()),?_,?_,ZEG (Zov hsx).1 ZDz⟩
  ·exact congrArg (λo=>Option.bind o _) hpo2
  ·by_cases q:p.1<0
   ·have:=hk2 q
    have t:((k-2:Nat):Int)=(k:Int)-2:=by omega
    rw[if_pos q,if_pos q,Zar (by omega) (by omega),t]
   ·rw[if_neg q,if_neg q]
 rw[if_neg k3,if_neg k3];by_cases k4:ZgL.Kind e=4
 ·obtain ⟨p,hp,h2,_⟩:=h.poss.2.2.2.1 k4
  have hk:=(List.getElem?_eq_some_iff.1 hp.2).1;have hm:=ZEl (Zj.Design b) (ZAz b) (ZgL.Place e).toNat p hp.2 h2;rw[if_pos k4,if_pos k4,Q5 _ hf,Bq,hp.at,Bq,ZB3 hB,Bq,Bq,ZCv hB,Bq,Zbc hp.1 (ZEu hk),Bq];rw[show ZrG Zui (Ty.int IntKind.i64) (ZB5 (Zw (Zj.Design b)) (ZAz b) (Zw (Zj.Design b)).length) (YA.instance p,YA.pin p,())=some (ZAz b (ZgL.Place e).toNat) from hm];exact ⟨_,rfl,rfl,ZEG ZD1 ZDz⟩
 ·have k5:ZgL.Kind e=5:=by have:=h.blank;unfold Blank at this;omega
  obtain ⟨w,hw1,hw2,_⟩:=ZDO hB (h.range.2.2 k5);have hsw:sm Za9 w:=ZeM b3 hw1;rw[if_neg k4,if_neg k4,hw2,Bq,Bq,ZBR _ hsw,ZCX _ hsw];exact ⟨_,rfl,rfl,ZEG ZD1 hsw⟩
theorem ZHL {b:Zj} {e:ZgL} (h:ZCe b e) {y:ZgL} (hy:ZBp b e=some y):ZAr e b=some y/\sm Zug y:=by
 obtain ⟨z,z1,z2,z3⟩:=ZI5 h;rw[z2] at hy;injection hy with hy
 subst hy;exact ⟨z1,z3⟩
theorem ZIO {b:Zj} {s:Zo} {l:List ZgL} (hB:ZdN b) (hs:sm Vh s) (hS:Znb (Zw (Zj.Design b)) s) (hl:sm (.sl Zug) l) {x:ZgL} (hx:l[0]?=some x) (h:ZDP b s l=some true) :
  ZCe b x/\ZA0 b x=some 0/\∀ r,ZAp x b=some r->ZBe b x s r:=by
 have hlt:0<l.length:=(List.getElem?_eq_some_iff.1 hx).1;have hsml:=Zv hl;have hxs:sm Zug x:=ZeM hl hx;have h:ZHx l (stR 0 b s)=some true:=h;obtain ⟨c,c1,c2,c3⟩:=ZDY hB x hxs;have c1':ZBx x ((Zt.Cells (Zj.Library b),()),(Zg.Instances (Zj.Design b),Zg.X7 (Zj.Design b),Zg.Xb (Zj.Design b),()),Zj.Qg b,())=some c:=c1;by_cases hc:c=0
 ·have hC:=c3 hc
  obtain ⟨r,y,r1,r3,r4,_,r5,r6,r7⟩:=ZDw hC hxs (by rw[c2,hc]) hs hS;refine ⟨hC,by rw[c2,hc],λr' hr'=>?_⟩;rw[r1] at hr';injection hr' with hr'
  subst hr';by_cases q:ZBe b x s r
  ·exact q
  ·exfalso
   have r5':ZAM x ((Zt.Cells (Zj.Library b),()),(Zg.Instances (Zj.Design b),Zg.X7 (Zj.Design b),Zg.Xb (Zj.Design b),()),Zj.Qg b,()) (Zo.Yk s,Zo.Zbb s,Zo.Vp s,Zo.Exceptions s,Zo.X5 s,())=some (sel (ZBe b x s r) (ZFZ (after b x) s,true) (ZES,false)):=r5;have:ZHx l (stR 0 b s)=some false:=ZeP (by
    simp only[ZA5];rw[if_pos (by omega),Zu,hx,Bq,c1',Bq,if_pos hc,r5',YC q,Bq,if_neg (by decide)])
   rw[this] at h;injection h with h
   cases h
 ·exfalso
  have:ZHx l (stR 0 b s)=some false:=ZeP (by
   simp only[ZA5];rw[if_pos (by omega),Zu,hx,Bq,c1',Bq,if_neg hc])
  rw[this] at h;injection h with h
  cases h
abbrev front (y:ZgL) (l:List ZgL):List ZgL:=(y::l).take 10
theorem ZHU {y:ZgL} {l:List ZgL} (hy:sm Zug y) (hl:sm (.sl Zug) l):sm (.sl Zug) (front y l):=by
 refine ⟨by have:(front y l).length<=10:=List.length_take_le 10 (y::l);omega,λe he=>?_⟩;rcases List.mem_cons.1 (List.mem_of_mem_take he) with rfl | q
 ·exact hy
 ·exact hl.2 e q
theorem ZJT {l:List ZgL} (hl:sm (.sl Zug) l):sm (.sl Zug) (l.drop 1):=⟨by have:=Zv hl;rw[List.length_drop];omega,λe he=>hl.2 e (List.mem_of_mem_drop he)⟩
theorem ZIT (e:ZgL) (he:sm Zug e):ZEx e=some e:=by
 unfold ZEx;rw[ZCX _ (ZEN he).2,Bq]
theorem ZF7 {y:ZgL} {l:List ZgL} (hl:sm (.sl Zug) l):ZC8 y l=some (front y l):=by
 have hsml:=Zv hl;have hl9:(l.take 9).length=min 9 l.length:=List.length_take;unfold ZC8;have:=JF (l:=l.take 9) (ρ:=List ZgL) (λk=>([y]++(l.take 9).take k,(k:Int),())) (step:=λv=>ZCo l v.1 v.2.1) (good:=[y]++l.take 9)
  (λk x hx hk=>by
   have hx':l[k]?=some x:=by rw[List.getElem?_take_of_lt (by omega)] at hx;exact hx
   have hxs:sm Zug x:=ZeM hl hx';have hlen:([y]++(l.take 9).take k).length=k+1:=by rw[List.length_append,List.length_singleton,List.length_take];omega
   simp only[ZCo,hlen,show (k:Int)<(l.length:Int) from by omega,show ((k+1:Nat):Int)<10 from by omega,if_true,Zu,hx',Bq,ZIT _ hxs,Jb (show k<=1048576 by omega)];rw[Zd (by rw[List.length_singleton];omega),Yy hx,List.append_assoc])
  (by
   have hlen:([y]++l.take 9).length=(l.take 9).length+1:=by rw[List.length_append,List.length_singleton];omega
   simp only[ZCo,List.take_length];split
   ·rw[if_neg (by rw[hlen];omega)]
   ·rfl)
 exact this
theorem ZIg {l:List ZgL} (hl:sm (.sl Zug) l):ZD7 l=some (l.drop 1):=by
 have hsml:=Zv hl;have hld:(l.drop 1).length=l.length-1:=List.length_drop;unfold ZD7;have:=JF (l:=l.drop 1) (ρ:=List ZgL) (λk=>((l.drop 1).take k,((k+1:Nat):Int),())) (step:=λv=>ZCS l v.1 v.2.1) (good:=l.drop 1)
  (λk x hx hk=>by
   have hx':l[k+1]?=some x:=by rw[List.getElem?_drop,Nat.add_comm] at hx;exact hx
   have hxs:sm Zug x:=ZeM hl hx';simp only[ZCS,show ((k+1:Nat):Int)<(l.length:Int) from by omega,if_true,Zu,hx',Bq,ZIT _ hxs,Jb (show k+1<=1048576 by omega)];rw[Zd (by rw[List.length_take,List.length_singleton];omega),Yy hx])
  (by
   have hn:¬(((l.drop 1).length+1:Nat):Int)<(l.length:Int):=by omega
   simp only[ZCS,hn,if_false,List.take_length])
 exact this
abbrev ZK5:ZdQ:=(ZK4,ZES,[],[],())
theorem ZKr:sm Zth ZK5:=⟨ZIX,ZI9,⟨by show (0:Int)<=_;omega,λe he=>by cases he⟩,⟨by show (0:Int)<=_;omega,λe he=>by cases he⟩,trivial⟩
def ZAH {α:Type} (o:Option α) (Q:α->Prop):Prop:=∃ a,o=some a/\Q a
theorem ZAH.ret {α:Type} {a:α} {Q:α->Prop} (h:Q a):ZAH (some a) Q:=⟨a,rfl,h⟩
theorem ZAH.bind {α β:Type} {o:Option α} {P:α->Prop} {f:α->Option β} {Q:β->Prop} (h:ZAH o P) (k:∀ a,P a->ZAH (f a) Q):ZAH (o.bind f) Q:=by
 obtain ⟨a,e,hp⟩:=h;rw[e];exact k a hp
theorem ZAH.guard {α:Type} {p:Prop} {o:Option α} {Q:α->Prop} (h:p) (k:ZAH o Q):ZAH (Zp p o) Q:=by rw[Zd h];exact k
theorem ZAH.ite {α:Type} {p:Prop} [Decidable p] {a b:Option α} {Q:α->Prop} (h1:p->ZAH a Q) (h2:¬p->ZAH b Q):ZAH (if p then a else b) Q:=by
 split
 ·exact h1 (by assumption)
 ·exact h2 (by assumption)
theorem ZAH.at {α β:Type} {l:List α} {i:Int} {f:α->Option β} {Q:β->Prop} (h0:0<=i) (h1:i<(l.length:Int)) (k:∀ x,x∈l->l[i.toNat]?=some x->ZAH (f x) Q):ZAH ((atI l i).bind f) Q:=by
 obtain ⟨x,e,hx⟩:=ZmO h0 h1;rw[e];exact k x (List.mem_of_getElem? hx) hx
theorem ZAH.mono {α:Type} {o:Option α} {P Q:α->Prop} (h:ZAH o P) (k:∀ a,P a->Q a):ZAH o Q:=by
 obtain ⟨a,e,hp⟩:=h;exact ⟨a,e,k a hp⟩
theorem ZAH.of {α:Type} {o:Option α} {a:α} {Q:α->Prop} (e:o=some a) (h:Q a):ZAH o Q:=⟨a,e,h⟩
def Rnd {τ ρ:Type} (I:τ->Prop) (μ:τ->Nat) (m:Nat) (Q:ρ->Prop):τ ⊕ ρ->Prop
 | .inl v=>I v/\μ v<m
 | .inr r=>Q r
theorem ZAH.loop {τ ρ:Type} {step:τ->Option (τ ⊕ ρ)} (I:τ->Prop) (μ:τ->Nat) {Q:ρ->Prop} {v:τ} (h0:I v) (hs:∀ v,I v->ZAH (step v) (Rnd I μ (μ v) Q)):ZAH (Zq step v) Q:=by
 refine ZqM I μ Q h0 (λv hI=>?_);obtain ⟨r,e,h⟩:=hs v hI;cases r with
 | inl v'=>exact .inl ⟨v',e,h⟩
 | inr r=>exact .inr ⟨r,e,h⟩
def Bel (n k:Int):Prop:=0<=k/\(k<n\/k=0)
theorem ZA6 {α:Type} {P:α->Prop} {l:List α} {x:α} (h:∀ y∈l,P y) (hx:P x):∀ y∈l++[x],P y:=by
 intro y hy;rcases List.mem_append.1 hy with hy | hy
 ·exact h y hy
 ·rw[List.mem_singleton] at hy
  rw[hy];exact hx
theorem ZHE {α:Type} {P:α->Prop} {l:List α} {x:α} {i:Nat} (h:∀ y∈l,P y) (hx:P x):∀ y∈l.set i x,P y:=by
 intro y hy;rcases List.mem_or_eq_of_mem_set hy with hy | hy
 ·exact h y hy
 ·rw[hy];exact hx
theorem smI {l:List Int} (h:l.length<=1048576):sm (.sl (.int .i64)) l:=⟨by omega,λ_ _=>trivial⟩
theorem smS {s:List UInt8} (h:s.length<=1048576):sm .str s:=by show (s.length:Int)<=1048576;omega
theorem smL {t:Ty} {l:List t.den} (h:l.length<=1048576) (h2:∀ x∈l,sm t x):sm (.sl t) l:=⟨by omega,h2⟩
structure Src (s:Zdd):Prop where
 code:∀ x∈Zdd.code s,0<=x/\x<=255
 len:(Zdd.code s).length<=5000
 at0:0<=Zdd.at s
 at1:Zdd.at s<=5000
 sd0:0<=Zdd.seed s
 sd1:Zdd.seed s<2147483647
theorem ZAn {s:Zdd} (hs:Src s) (n:Int):ZAH (ZAm s n) (λr=>Bel n r.1/\Src r.2):=by
 obtain ⟨hc,hl,a0,a1,s0,s1⟩:=hs;unfold ZAm;split
 ·exact .ret ⟨⟨Int.le_refl _,.inr rfl⟩,⟨hc,hl,a0,a1,s0,s1⟩⟩
 rename_i hn;split
 ·rename_i hat
  refine .at a0 hat λx hx _=>?_;obtain ⟨b0,b1⟩:=hc x hx;have e1:Wq (Zdd.at s+1)=Zdd.at s+1:=Zar (by omega) (by omega);have e2:Wq x=x:=Zar (by omega) (by omega);have e3:Wq (Zdd.seed s*48271)=Zdd.seed s*48271:=Zar (by omega) (by omega);have e4:Wq (Zdd.seed s*48271+x)=Zdd.seed s*48271+x:=Zar (by omega) (by omega);have e5:Wq (Zdd.seed s*48271+x+1)=Zdd.seed s*48271+x+1:=Zar (by omega) (by omega);simp only[e2,e3,e4,e5,e1];split
  ·refine .guard (by omega) (.ret ⟨⟨Int.tmod_nonneg _ b0,.inl (Int.tmod_lt_of_pos _ (by omega))⟩,⟨hc,hl,?_,?_,s0,s1⟩⟩)
   ·show 0<=Zdd.at s+1;omega
   ·show Zdd.at s+1<=5000;omega
  ·have m0:=Int.tmod_nonneg (a:=Zdd.seed s*48271+x+1) 2147483647 (by omega)
   have m1:=Int.tmod_lt_of_pos (Zdd.seed s*48271+x+1) (show (0:Int)<2147483647 by omega);refine .guard (by omega) (.ret ⟨⟨Int.tmod_nonneg _ m0,.inl (Int.tmod_lt_of_pos _ (by omega))⟩,⟨hc,hl,?_,?_,m0,m1⟩⟩)
   ·show 0<=Zdd.at s+1;omega
   ·show Zdd.at s+1<=5000;omega
 ·have e3:Wq (Zdd.seed s*48271)=Zdd.seed s*48271:=Zar (by omega) (by omega)
  have e4:Wq (Zdd.seed s*48271+11)=Zdd.seed s*48271+11:=Zar (by omega) (by omega);simp only[e3,e4];have m0:=Int.tmod_nonneg (a:=Zdd.seed s*48271+11) 2147483647 (by omega);have m1:=Int.tmod_lt_of_pos (Zdd.seed s*48271+11) (show (0:Int)<2147483647 by omega);generalize (Zdd.seed s*48271+11).tmod 2147483647=q at m0 m1;have d0:q.tdiv 7=q / 7:=Int.tdiv_eq_ediv_of_nonneg m0;rw[d0,Zar (n:=q / 7) (by omega) (by omega)];exact .guard (by omega) (.ret ⟨⟨Int.tmod_nonneg _ (by omega),.inl (Int.tmod_lt_of_pos _ (by omega))⟩,⟨hc,hl,a0,a1,m0,m1⟩⟩)
theorem ZI4 {code:List Int} (hc:∀ x∈code,0<=x/\x<=255) (hl:code.length<=5000):ZAH (ZD2 code) Src:=by
 unfold ZD2;refine ZAH.loop (λv=>0<=v.1/\v.1<=64/\0<=v.2.1/\v.2.1<2147483647) (λv=>(64-v.1).toNat) ⟨Int.le_refl _,by show (0:Int)<=64;omega,by show (0:Int)<=12345;omega,by show (12345:Int)<2147483647;omega⟩ ?_;rintro ⟨i,c,⟨⟩⟩ ⟨i0,i1,c0,c1⟩;simp only at i0 i1 c0 c1;have fin:ZAH (some (.inr (code,(0:Int),c,()):(Int×Int×Unit) ⊕ Zdd)) (Rnd (λv:Int×Int×Unit=>0<=v.1/\v.1<=64/\0<=v.2.1/\v.2.1<2147483647) (λv=>(64-v.1).toNat) ((λv:Int×Int×Unit=>(64-v.1).toNat) (i,c,())) Src) :=
  .ret (show Src (code,(0:Int),c,()) from ⟨hc,hl,Int.le_refl _,by show (0:Int)<=5000;omega,c0,c1⟩)
 show ZAH (ZDA code i c) _;unfold ZDA;split
 ·rename_i hi
  split
  ·rename_i h64
   refine .at i0 hi λx hx _=>?_;obtain ⟨b0,b1⟩:=hc x hx;have e1:Wq (i+1)=i+1:=Zar (by omega) (by omega);have e2:Wq x=x:=Zar (by omega) (by omega);have e3:Wq (c*31)=c*31:=Zar (by omega) (by omega);have e4:Wq (c*31+x)=c*31+x:=Zar (by omega) (by omega);simp only[e1,e2,e3,e4];refine .ret ⟨⟨?_,?_,Int.tmod_nonneg _ (by omega),Int.tmod_lt_of_pos _ (by omega)⟩,?_⟩
   ·show 0<=i+1;omega
   ·show i+1<=64;omega
   ·show (64-(i+1)).toNat<(64-i).toNat;omega
  ·exact fin
 ·exact fin
theorem ZJE {code:List Int} (hc:∀ x∈code,0<=x/\x<=255) (hl:code.length<=4096):ZAH (ZD2 code) Src:=ZI4 hc (by omega)
theorem ZFR {n:Int} (h0:0<=n) (h1:n<100):ZAH (Zaw n) (λr=>r.length<=2):=by
 have one:∀ (k:Nat) (m:Int),0<=m->m<10->Y1 (k+1) m=some (bytesOf [IntKind.wrap IntKind.u8 (Wq (48+m))]):=λk m a b=>by
  show YB (Y1 k) m=_;unfold YB;rw[if_neg (by omega),if_pos b]
 have hb:∀ x:Int,(bytesOf [x]).length=1:=λx=>rfl;unfold Zaw;by_cases h:n<10
 ·refine .of (ZnG ⟨1,one 0 n h0 h⟩ (λk r hr=>?_)) (by rw[hb];omega)
  cases k with
  | zero=>cases hr
  | succ k=>rw[one k n h0 h] at hr;injection hr with hr;exact hr.symm
 ·have hd:n.tdiv 10=n / 10:=Int.tdiv_eq_ediv_of_nonneg h0
  have two:∀ k:Nat,Y1 (k+2) n=some (bytesOf [IntKind.wrap IntKind.u8 (Wq (48+n / 10))]++bytesOf [IntKind.wrap IntKind.u8 (Wq (48+n.tmod 10))]):=λk=>by
   show YB (Y1 (k+1)) n=_;unfold YB;rw[if_neg (by omega),if_neg h,hd,Zar (n:=n / 10) (by omega) (by omega),one k (n / 10) (by omega) (by omega),Bq,Zd (by rw[hb,hb];omega)]
  refine .of (ZnG ⟨2,two 0⟩ (λk r hr=>?_)) (by rw[List.length_append,hb,hb];omega)
  match k,hr with
  | 0,hr=>cases hr
  | 1,hr =>
   exfalso;revert hr;show ¬YB (Y1 0) n=some r;unfold YB;rw[if_neg (by omega),if_neg h];intro hr;cases hr
  | k+2,hr=>rw[two k] at hr;injection hr with hr;exact hr.symm
theorem ZH6 {s:Zdd} (hs:Src s) (st:Int):ZAH (ZCu s st) (λr=>(1<=r.1.length/\r.1.length<=3)/\Src r.2):=by
 unfold ZCu;refine (ZAn hs st).bind λr0 ⟨_,h0⟩=>?_;refine (ZAn h0 3).bind λr1 ⟨⟨a,b⟩,h1⟩=>?_;have e:Wq (1+r1.1)=1+r1.1:=Zar (by omega) (by omega);rw[e];refine ZAH.loop (λv=>0<=v.2.2.1/\(v.1.length:Int)+v.2.2.1=1+r1.1/\Src (v.2.2.2.1,v.2.2.2.2.1,v.2.2.2.2.2.1,())) (λv=>v.2.2.1.toNat) ⟨by dsimp only;omega,by grind,h1⟩ ?_;rintro ⟨out,t,n,c0,c1,c2,⟨⟩⟩ ⟨i1,i2,i3⟩;dsimp only at i1 i2 i3;show ZAH (ZCD st out t n c0 c1 c2) _;unfold ZCD;have hw:Wq (n-1)=n-1:=Zar (by omega) (by omega);rw[hw];split
 ·refine .guard (by grind) ?_
  refine (ZAn i3 st).bind λr ⟨_,h2⟩=>?_;refine .ret ⟨⟨by dsimp only;omega,by grind,h2⟩,by dsimp only;omega⟩
 ·exact .ret ⟨⟨by dsimp only;omega,by dsimp only;omega⟩,i3⟩
theorem ZKK {a b:Nat} (ha:1<=a/\a<=3) (hb:1<=b/\b<=3):(b:Int)<=(a:Int)*(b:Int)/\(a:Int)*(b:Int)<=9:=by
 have:a=1\/a=2\/a=3:=by omega
 grind
theorem ZHC {s:Zdd} (hs:Src s) (base:Int):ZAH (ZD3 s base) (λr=>sm XF r.1/\Src r.2):=by
 unfold ZD3;refine (ZH6 hs 60).bind λr0 ⟨ha,h0⟩=>?_;refine (ZH6 h0 40).bind λr1 ⟨hb,h1⟩=>?_;obtain ⟨p1,p2⟩:=ZKK ha hb;refine ZAH.loop (λv=>0<=v.2.1/\v.2.1<=9/\(v.1.length:Int)=v.2.1/\Src (v.2.2.1,v.2.2.2.1,v.2.2.2.2.1,())) (λv=>(9-v.2.1).toNat) ⟨by dsimp only;omega,by dsimp only;omega,by grind,h1⟩ ?_;rintro ⟨out,i,c0,c1,c2,⟨⟩⟩ ⟨i0,i1,i2,i3⟩;dsimp only at i0 i1 i2 i3;show ZAH (ZDB base r0 r1 out i c0 c1 c2) _;unfold ZDB;have e0:Wq ((r0.1.length:Int)*(r1.1.length:Int))=(r0.1.length:Int)*(r1.1.length:Int):=Zar (by omega) (by omega);have e1:Wq (i+1)=i+1:=Zar (by omega) (by omega);have e2:Wq (i-1)=i-1:=Zar (by omega) (by omega);have e3:Wq (i-(r1.1.length:Int))=i-(r1.1.length:Int):=Zar (by omega) (by omega);rw[e0,e1,e2,e3];split
 ·rename_i hi
  have nx:∀ (x:Int) (t:Zdd),Src t->ZAH (Zp ((List.length out+List.length [x])*(8:Nat)<=(140737488355328:Nat)) (some (.inl (out++[x],i+1,t.fst,t.snd.fst,t.snd.snd.fst,()):(List Int×Int×List Int×Int×Int×Unit) ⊕ (Zy×Zdd))))
    (Rnd (λv:List Int×Int×List Int×Int×Int×Unit=>0<=v.2.1/\v.2.1<=9/\(v.1.length:Int)=v.2.1/\Src (v.2.2.1,v.2.2.2.1,v.2.2.2.2.1,())) (λv=>(9-v.2.1).toNat) (9-i).toNat (λr=>sm XF r.1/\Src r.2)):=λx t ht =>
   .guard (by grind) (.ret ⟨⟨by dsimp only;omega,by dsimp only;omega,by grind,ht⟩,by dsimp only;omega⟩)
  refine (ZAn i3 10).bind λr ⟨_,g0⟩=>?_;refine .guard (by omega) ?_;split
  ·rename_i hm
   have hne:i≠0:=by
    intro q
    simp_all
   refine .at (by omega) (by omega) λx0 _ _=>?_;refine (ZAn g0 20).bind λr2 ⟨_,g1⟩=>?_;split
   ·refine .at (by omega) (by omega) λx1 _ _=>?_
    refine (ZAn g1 20).bind λr3 ⟨_,g2⟩=>?_;exact nx _ _ g2
   ·exact nx _ _ g1
  ·split
   ·refine .at (by omega) (by omega) λx1 _ _=>?_
    refine (ZAn g0 20).bind λr3 ⟨_,g2⟩=>?_;exact nx _ _ g2
   ·exact nx _ _ g0
 ·exact .ret ⟨⟨smI (by dsimp only;omega),smI (by dsimp only;omega),smI (by dsimp only;omega),trivial⟩,i3⟩
theorem ZFH {s:Zdd} (hs:Src s) (base:Int):ZAH (ZBr s base) (λr=>sm (.sl XF) r.1/\Src r.2):=by
 unfold ZBr;refine (ZHC hs base).bind λr0 ⟨a,h0⟩=>?_;refine (ZHC h0 base).bind λr1 ⟨b,h1⟩=>?_;refine .ret ⟨smL (by grind) (λx hx=>?_),h1⟩;grind
theorem ZFK {s:Zdd} (hs:Src s) (k f t se:Int):ZAH (ZBo s k f t se) (λr=>sm Zgv r.1/\Src r.2):=by
 unfold ZBo;split
 ·refine (ZAn hs 10).bind λr0 ⟨_,h0⟩=>?_
  refine (ZFH h0 _).bind λr1 ⟨a,h1⟩=>?_;exact .ret ⟨⟨trivial,trivial,trivial,trivial,a,smL (by simp) (by simp),trivial⟩,h1⟩
 ·refine (ZAn hs 20).bind λr0 ⟨_,h0⟩=>?_
  refine (ZFH h0 _).bind λr1 ⟨a,h1⟩=>?_;refine (ZFH h1 _).bind λr2 ⟨b,h2⟩=>?_;exact .ret ⟨⟨trivial,trivial,trivial,trivial,a,b,trivial⟩,h2⟩
theorem ZEL {c:Zk} {pin b:Int} (hu:(0:Int)<=IntKind.wrap IntKind.u64 pin) (hbit:Wq ((1:Int)*(2:Int) ^ Min.min (Int.toNat (IntKind.wrap IntKind.u64 pin)) (IntKind.bits IntKind.i64))=b) (hL:(Zk.Truth c).length<=8) (b0:0<=b) (b1:b<=8)
  (hb:∀ i:Int,0<=i->i<((Zk.Truth c).length:Int)->Go.bits Go.BinOp.and IntKind.i64 i b=0->i+b<((Zk.Truth c).length:Int)):ZAH (ZDE c pin) (λ_=>True):=by
 unfold ZDE;refine .guard hu ?_;refine ZAH.loop (λv=>0<=v.2.2.1/\v.2.2.1<=8) (λv=>(8-v.2.2.1).toNat) ⟨by dsimp only;omega,by dsimp only;omega⟩ ?_;rintro ⟨ra,lo,i,⟨⟩⟩ ⟨i0,i1⟩;dsimp only at i0 i1;show ZAH (ZDn c pin ra lo i) _;unfold ZDn;have e1:Wq (i+1)=i+1:=Zar (by omega) (by omega);have e2:Wq (i+b)=i+b:=Zar (by omega) (by omega);simp only[hbit,e1,e2];split
 ·rename_i hi
  have nx:∀ r l:Bool,ZAH (some (.inl (r,l,i+1,()):(Bool×Bool×Int×Unit) ⊕ Int)) (Rnd (λv:Bool×Bool×Int×Unit=>0<=v.2.2.1/\v.2.2.1<=8) (λv=>(8-v.2.2.1).toNat) (8-i).toNat (λ_=>True)):=λr l =>
   .ret ⟨⟨by dsimp only;omega,by dsimp only;omega⟩,by dsimp only;omega⟩
  split
  ·rename_i hz
   have hlt:=hb i i0 hi hz;repeat' first
    | exact nx _ _
    | split
    | refine ZAH.at (by omega) (by omega) λ_ _ _=>?_
  ·exact nx _ _
 ·repeat' first
   | exact ZAH.ret (show Rnd _ _ _ (λ_=>True) (.inr _) from trivial)
   | split
theorem eight {i:Int} (h0:0<=i) (h1:i<8):i=0\/i=1\/i=2\/i=3\/i=4\/i=5\/i=6\/i=7:=by omega
theorem ZI7 {c:Zk} {pin:Int} (h:((Zk.Truth c).length=2/\pin=0)\/((Zk.Truth c).length=4/\(pin=0\/pin=1))\/((Zk.Truth c).length=8/\(pin=0\/pin=1\/pin=2))):ZAH (ZDE c pin) (λ_=>True):=by
 have k0:∀ L:Int,(L=2\/L=4\/L=8)->∀ i:Int,0<=i->i<L->Go.bits Go.BinOp.and IntKind.i64 i 1=0->i+1<L:=by
  intro L hL i h0 h1 hz;rcases eight h0 (by omega) with rfl | rfl | rfl | rfl | rfl | rfl | rfl | rfl<;>first | omega | exact absurd hz (by decide)
 have k1:∀ L:Int,(L=4\/L=8)->∀ i:Int,0<=i->i<L->Go.bits Go.BinOp.and IntKind.i64 i 2=0->i+2<L:=by
  intro L hL i h0 h1 hz;rcases eight h0 (by omega) with rfl | rfl | rfl | rfl | rfl | rfl | rfl | rfl<;>first | omega | exact absurd hz (by decide)
 have k2:∀ L:Int,L=8->∀ i:Int,0<=i->i<L->Go.bits Go.BinOp.and IntKind.i64 i 4=0->i+4<L:=by
  intro L hL i h0 h1 hz;rcases eight h0 (by omega) with rfl | rfl | rfl | rfl | rfl | rfl | rfl | rfl<;>first | omega | exact absurd hz (by decide)
 rcases h with ⟨hl,rfl⟩ | ⟨hl,rfl | rfl⟩ | ⟨hl,rfl | rfl | rfl⟩
 ·exact ZEL (b:=1) (by decide) (by decide) (by omega) (by omega) (by omega) (k0 _ (by omega))
 ·exact ZEL (b:=1) (by decide) (by decide) (by omega) (by omega) (by omega) (k0 _ (by omega))
 ·exact ZEL (b:=2) (by decide) (by decide) (by omega) (by omega) (by omega) (k1 _ (by omega))
 ·exact ZEL (b:=1) (by decide) (by decide) (by omega) (by omega) (by omega) (k0 _ (by omega))
 ·exact ZEL (b:=2) (by decide) (by decide) (by omega) (by omega) (by omega) (k1 _ (by omega))
 ·exact ZEL (b:=4) (by decide) (by decide) (by omega) (by omega) (by omega) (k2 _ (by omega))
theorem ZE6 {s:Zdd} (hs:Src s) {nm:List UInt8} (hn:nm.length<=5) {tr:List Int} (ht:tr.length=2\/tr.length=4\/tr.length=8):ZAH (ZCc s nm tr) (λr=>sm V6 r.1/\Src r.2):=by
 unfold ZCc;refine (ZAn hs 50).bind λr0 ⟨_,h0⟩=>?_;refine (ZAn h0 80).bind λr1 ⟨_,h1⟩=>?_;refine ZAH.loop (λv=>((v.1.length=0/\v.2.1=1)\/(v.1.length=1/\v.2.1=2)\/(v.1.length=2/\v.2.1=4)\/(v.1.length=3/\v.2.1=8))/\v.2.1<=(tr.length:Int)/\(∀ x∈v.1,sm ZfZ x)/\Src (v.2.2.1,v.2.2.2.1,v.2.2.2.2.1,())) (λv=>(8-v.2.1).toNat)
  ⟨.inl ⟨rfl,rfl⟩,by dsimp only;omega,λx hx=>(by cases hx),h1⟩ ?_
 rintro ⟨pins,n,c0,c1,c2,⟨⟩⟩ ⟨i1,i2,i3,i4⟩;dsimp only at i1 i2 i3 i4;show ZAH (ZDD nm tr r0 r1 pins n c0 c1 c2) _;unfold ZDD;split
 ·rename_i hlt
  refine .at (by omega) (by grind) λx hx _=>?_;have hx1:x.length<=1:=by
   grind
  refine (ZAn i4 9).bind λr ⟨_,h2⟩=>?_;have e1:Wq (2*n)=2*n:=Zar (by omega) (by omega);rw[e1];refine .guard (by grind) (.ret ⟨⟨?_,by dsimp only;omega,ZA6 i3 ⟨smS (by grind),trivial,trivial,trivial,trivial⟩,h2⟩,by dsimp only;omega⟩);grind
 ·refine .guard (by grind) ?_
  refine ZAH.loop (λv=>0<=v.2.1/\v.2.1<=3/\(v.1.length:Int)<=v.2.1/\(∀ x∈v.1,sm Zgv x)/\Src (v.2.2.1,v.2.2.2.1,v.2.2.2.2.1,())) (λv=>(3-v.2.1).toNat) ⟨by dsimp only;omega,by dsimp only;omega,by grind,λx hx=>(by cases hx),i4⟩ ?_;rintro ⟨arcs,p,d0,d1,d2,⟨⟩⟩ ⟨j0,j1,j2,j3,j4⟩;dsimp only at j0 j1 j2 j3 j4;show ZAH (ZDC nm tr r0 r1 pins arcs p d0 d1 d2) _;unfold ZDC;have e1:Wq (p+1)=p+1:=Zar (by omega) (by omega);rw[e1];split
  ·rename_i hp
   refine (ZI7 (by
    grind)).bind λse _=>?_
   split
   ·exact .ret ⟨⟨by dsimp only;omega,by dsimp only;omega,by dsimp only;omega,j3,j4⟩,by dsimp only;omega⟩
   ·refine (ZFK j4 1 p _ se).bind λr ⟨ha,h2⟩=>?_
    refine .guard (by grind) (.ret ⟨⟨by dsimp only;omega,by dsimp only;omega,?_,ZA6 j3 ha,h2⟩,by dsimp only;omega⟩);grind
  ·refine .ret ⟨⟨smS (by grind),trivial,smL ?_ (ZA6 i3 ⟨smS (by grind),trivial,trivial,trivial,trivial⟩),smL (by grind) j3,smI (by grind),trivial,trivial,trivial⟩,j4⟩
   grind
theorem ZGX {s:Zdd} (hs:Src s) {nm:List UInt8} (hn:nm.length<=5) (k e:Int):ZAH (ZBO s nm k e) (λr=>sm V6 r.1/\Src r.2):=by
 have hp:∀ a b:Int,sm (.sl ZfZ) [([(100:UInt8)],(1:Int),a,Bool.false,()),([(99:UInt8),(107:UInt8)],(1:Int),b,Bool.true,()),([(113:UInt8)],(2:Int),(0:Int),Bool.false,())]:=λa b=>by
  refine smL (by grind) (λx hx=>?_);simp only[List.mem_cons,List.not_mem_nil,or_false] at hx;rcases hx with rfl | rfl | rfl<;>exact ⟨smS (by grind),trivial,trivial,trivial,trivial⟩
 unfold ZBO;refine (ZAn hs 50).bind λr0 ⟨_,h0⟩=>?_;refine (ZAn h0 80).bind λr1 ⟨_,h1⟩=>?_;refine (ZAn h1 9).bind λr2 ⟨_,h2⟩=>?_;refine (ZAn h2 9).bind λr3 ⟨_,h3⟩=>?_;refine (ZFK h3 e 1 2 0).bind λa0 ⟨g0,h4⟩=>?_;refine (ZFK h4 4 1 0 0).bind λa1 ⟨g1,h5⟩=>?_;refine (ZFK h5 5 1 0 0).bind λa2 ⟨g2,h6⟩=>?_;have h3a:∀ x∈[a0.1,a1.1,a2.1],sm Zgv x:=λx hx=>by
  grind
 split
 ·refine (ZFK h6 1 0 2 1).bind λa3 ⟨g3,h7⟩=>?_
  refine .guard (by grind) (.ret ⟨⟨smS (by grind),trivial,hp _ _,smL (by grind) (ZA6 h3a g3),smI (by simp),trivial,trivial,trivial⟩,h7⟩)
 ·exact .ret ⟨⟨smS (by grind),trivial,hp _ _,smL (by grind) h3a,smI (by simp),trivial,trivial,trivial⟩,h6⟩
theorem ZKh {s:Zdd} (hs:Src s):ZAH (ZEB s) (λr=>(sm YR r.1/\(Zt.Cells r.1).length=8)/\Src r.2):=by
 unfold ZEB;refine (ZE6 hs (by grind) (by simp)).bind λr0 ⟨g0,h0⟩=>?_;refine (ZE6 h0 (by grind) (by simp)).bind λr1 ⟨g1,h1⟩=>?_;refine (ZE6 h1 (by grind) (by simp)).bind λr2 ⟨g2,h2⟩=>?_;refine (ZE6 h2 (by grind) (by simp)).bind λr3 ⟨g3,h3⟩=>?_;refine (ZE6 h3 (by grind) (by simp)).bind λr4 ⟨g4,h4⟩=>?_;refine (ZGX h4 (by grind) 2 2).bind λr5 ⟨g5,h5⟩=>?_;refine (ZGX h5 (by grind) 2 3).bind λr6 ⟨g6,h6⟩=>?_;refine (ZGX h6 (by grind) 3 2).bind λr7 ⟨g7,h7⟩=>?_;refine .ret ⟨⟨⟨smL (by simp_all) (λx hx=>?_),trivial⟩,rfl⟩,h7⟩;simp only[List.mem_cons,List.not_mem_nil,or_false] at hx;grind
def ZJd (x:Zl):Prop:=(∃ r,Zl.Name x=117::r/\r.length<=2)/\(2<=(Zl.X7 x).length/\(Zl.X7 x).length<=4)
def ZLp (s:List UInt8):Prop:=∃ r,s=110::r/\r.length<=2
def ZJ2 (p:Ye):Prop:=(Ye.Name p).length<=2
structure ZJ1 (d:Zg):Prop where
 n0:2<=(Zg.Instances d).length
 n1:(Zg.Instances d).length<=9
 inst:∀ x∈Zg.Instances d,ZJd x
 nl:(Zg.X7 d).length=(Zg.Instances d).length+3
 net:∀ s∈Zg.X7 d,ZLp s
 p0:4<=(Zg.Xb d).length
 p1:(Zg.Xb d).length<=5
 port:∀ p∈Zg.Xb d,ZJ2 p
theorem ZIy {s:Zdd} (hs:Src s) {most:Int} (hm1:1<=most) (hm2:most<=9) (wild:Bool):ZAH (ZEC s most wild) (λr=>ZJ1 r.1/\Src r.2):=by
 unfold ZEC;have em:Wq (most-1)=most-1:=Zar (by omega) (by omega);rw[em];refine (ZAn hs _).bind λr0 ⟨⟨a0,a1⟩,h0⟩=>?_;have e:Wq (2+r0.1)=2+r0.1:=Zar (by omega) (by omega);rw[e];have hN:2<=2+r0.1/\2+r0.1<=9:=by omega
 generalize 2+r0.1=N at hN;refine ZAH.loop (λv=>0<=v.2.2.1/\(v.1.length:Int)+v.2.2.1=N/\v.2.1.length=v.1.length+3/\(∀ x∈v.1,ZJd x)/\(∀ x∈v.2.1,ZLp x)/\Src (v.2.2.2.1,v.2.2.2.2.1,v.2.2.2.2.2.1,())) (λv=>v.2.2.1.toNat)
  ⟨by dsimp only;omega,by grind,rfl,λx hx=>(by cases hx),λx hx=>?_,h0⟩ ?_
 ·simp only[List.nil_append,List.mem_cons,List.not_mem_nil,or_false] at hx
  rcases hx with rfl | rfl | rfl
  ·exact ⟨_,rfl,Nat.le_refl _⟩
  ·exact ⟨_,rfl,by simp⟩
  ·exact ⟨_,rfl,by simp⟩
 rintro ⟨ins,nets,n,c0,c1,c2,⟨⟩⟩ ⟨i1,i2,i3,i4,i5,i6⟩;dsimp only at i1 i2 i3 i4 i5 i6;show ZAH (ZDH wild ins nets n c0 c1 c2) _;unfold ZDH;split
 ·rename_i hn
  refine (ZAn i6 12).bind λr ⟨⟨b0,b1⟩,h1⟩=>?_;refine .at b0 (by simp only[List.length_cons,List.length_nil];omega) λx hx _=>?_;have hx7:0<=x/\x<=7:=by
   simp only[List.mem_cons,List.not_mem_nil,or_false] at hx;omega
  refine (ZFR (n:=(ins.length:Int)) (by omega) (by omega)).bind λnm hnm=>?_;refine .guard (by grind) ?_;refine ZAH.loop (λv=>0<=v.1/\v.1<=3/\(v.2.2.2.2.1.length:Int)=v.1/\Src (v.2.1,v.2.2.1,v.2.2.2.1,())) (λv=>(3-v.1).toNat) ⟨by dsimp only;omega,by dsimp only;omega,rfl,h1⟩ ?_;rintro ⟨p,d0,d1,d2,l,⟨⟩⟩ ⟨j0,j1,j2,j3⟩;dsimp only at j0 j1 j2 j3;show ZAH (ZDF ins nets n x nm p d0 d1 d2 l) _;unfold ZDF;refine .at hx7.1 (by grind) λk hk _=>?_;have hk4:2<=k/\k<=4:=by
   simp only[List.mem_cons,List.not_mem_nil,or_false] at hk;omega
  have ek:Wq (k-1)=k-1:=Zar (by omega) (by omega);have ep:Wq (p+1)=p+1:=Zar (by omega) (by omega);have en:Wq (n-1)=n-1:=Zar (by omega) (by omega);simp only[ek,ep,en];split
  ·rename_i hpk
   refine (ZAn j3 _).bind λr2 ⟨_,h2⟩=>?_;refine (ZAn h2 3).bind λr3 ⟨_,h3⟩=>?_;repeat' first
    | split
    | refine ZAH.guard (by simp only[List.length_append,List.length_cons,List.length_nil];omega) ?_
    | exact .ret ⟨⟨by dsimp only;omega,by dsimp only;omega,by grind,h3⟩,by dsimp only;omega⟩
  ·refine .guard (by grind) ?_
   refine .guard (by grind) ?_;refine (ZFR (n:=(nets.length:Int)) (by omega) (by omega)).bind λnn hnn=>?_;refine .guard (by grind) ?_;refine .guard (by grind) ?_;refine .guard (by grind) ?_;refine .ret ⟨⟨by dsimp only;omega,by grind,by grind,ZA6 i4 ⟨⟨nm,rfl,hnm⟩,?_⟩,ZA6 i5 ⟨nn,rfl,hnn⟩,j3⟩,by dsimp only;omega⟩;grind
 ·rename_i hn
  refine ZAH.loop (λv=>0<=v.1/\v.1<=9/\v.2.2.2.2.1.length=ins.length/\(∀ x∈v.2.2.2.2.1,ZJd x)/\Src (v.2.1,v.2.2.1,v.2.2.2.1,())) (λv=>(9-v.1).toNat) ⟨by dsimp only;omega,by dsimp only;omega,rfl,i4,i6⟩ ?_;rintro ⟨p,d0,d1,d2,l,⟨⟩⟩ ⟨j0,j1,j2,j3,j4⟩;dsimp only at j0 j1 j2 j3 j4;show ZAH (ZDG wild nets p d0 d1 d2 l) _;unfold ZDG;have ep:Wq (p+1)=p+1:=Zar (by omega) (by omega);simp only[ep];split
  ·rename_i hp
   refine (ZAn j4 4).bind λr ⟨_,h1⟩=>?_;split
   ·refine .at j0 hp λx hx hxi=>?_
    have hxd:=j3 x hx;have st:∀ v:Int,ZAH ((ZAm r.2 v).bind λl01Next2=>(atI x.snd.snd.fst (0:Int)).bind λx1=>some (.inl (p+1,l01Next2.snd.fst,l01Next2.snd.snd.fst,l01Next2.snd.snd.snd.fst,List.set l (Int.toNat p) (x.fst,x.snd.fst,List.set x.snd.snd.fst (Int.toNat (0:Int)) (Wq ((1:Int)+l01Next2.fst)),()),()):(Int×(List Int)×Int×Int×(List (List UInt8×Int×List Int×Unit))×Unit) ⊕ (((List Zl)×(List (List UInt8))×Int×(List Int)×Int×Int×Unit) ⊕ (Zg×Zdd))))
      (Rnd (λv:Int×(List Int)×Int×Int×(List (List UInt8×Int×List Int×Unit))×Unit=>0<=v.1/\v.1<=9/\v.2.2.2.2.1.length=ins.length/\(∀ x∈v.2.2.2.2.1,ZJd x)/\Src (v.2.1,v.2.2.1,v.2.2.2.1,())) (λv=>(9-v.1).toNat) (9-p).toNat
       (Rnd (λv:(List Zl)×(List (List UInt8))×Int×(List Int)×Int×Int×Unit=>0<=v.2.2.1/\(v.1.length:Int)+v.2.2.1=N/\v.2.1.length=v.1.length+3/\(∀ x∈v.1,ZJd x)/\(∀ x∈v.2.1,ZLp x)/\Src (v.2.2.2.1,v.2.2.2.2.1,v.2.2.2.2.2.1,())) (λv=>v.2.2.1.toNat) n.toNat (λr=>ZJ1 r.1/\Src r.2))):=λv=>by
     refine (ZAn h1 v).bind λr2 ⟨_,h2⟩=>?_;refine .at (by omega) (by have:=hxd.2.1;grind) λ_ _ _=>?_;refine .ret ⟨⟨by dsimp only;omega,by dsimp only;omega,by grind,ZHE j3 ⟨hxd.1,?_⟩,h2⟩,by dsimp only;omega⟩;show 2<=(List.set (Zl.X7 x) _ _).length/\(List.set (Zl.X7 x) _ _).length<=4;rw[List.length_set];exact hxd.2
    repeat' first
     | exact st _
     | split
     | exact .ret ⟨⟨by dsimp only;omega,by dsimp only;omega,by grind,ZHE j3 hxd,h1⟩,by dsimp only;omega⟩
   ·exact .ret ⟨⟨by dsimp only;omega,by dsimp only;omega,j2,j3,h1⟩,by dsimp only;omega⟩
  ·refine .guard (by grind) ?_
   refine (ZAn j4 2).bind λr ⟨_,h1⟩=>?_;have four:∀ a:Int,∀ p∈(([]:List (List UInt8×Int×Int×Unit))++[([(99:UInt8),(107:UInt8)],(1:Int),(0:Int),()),([(97:UInt8)],(1:Int),(1:Int),()),([(98:UInt8)],(1:Int),(2:Int),())]++[([(121:UInt8)],(2:Int),a,())]),ZJ2 p:=λa p hp=>by
    simp only[List.nil_append,List.cons_append,List.mem_cons,List.not_mem_nil,or_false] at hp;unfold ZJ2;grind
   split
   ·refine (ZAn h1 _).bind λr2 ⟨_,h2⟩=>?_
    refine .guard (by grind) ?_;refine .ret ⟨⟨?_,?_,j3,?_,i5,?_,?_,ZA6 (four _) (show 1<=2 by omega)⟩,h2⟩;all_goals grind
   ·refine .ret ⟨⟨?_,?_,j3,?_,i5,?_,?_,four _⟩,h1⟩
    all_goals grind
theorem ZJ1.few {d:Zg} (h:ZJ1 d):Few d:=⟨by have:=h.n1;omega,by have:=h.p1;omega,λx hx=>by have:=(h.inst x hx).2.2;omega⟩
theorem ZJ1.sm {d:Zg} (h:ZJ1 d):sm YU d:=by
 have:=h.n1;have:=h.p1;have:=h.nl;refine ⟨smL (by grind) (λx hx=>?_),smL (by grind) (λx hx=>?_),smL (by grind) (λx hx=>?_),trivial⟩
 ·obtain ⟨⟨r,e,hr⟩,h2⟩:=h.inst x hx
  refine ⟨smS ?_,trivial,smI ?_,trivial⟩;all_goals grind
 ·obtain ⟨r,e,hr⟩:=h.net x hx
  refine smS ?_;grind
 ·have:=h.port x hx
  unfold ZJ2 at this;exact ⟨smS (by grind),trivial,trivial,trivial⟩
def ZJe (w:Zx):Prop:=(1<=(Zx.Parent w).length/\(Zx.Parent w).length<=4)/\(Zx.Res w).length=(Zx.Parent w).length/\(Zx.Cap w).length=(Zx.Parent w).length/\(Zx.Zjo w).length<=100
theorem ZJe.sm {w:Zx} (h:ZJe w):sm Za9 w:=by
 obtain ⟨h1,h2,h3,h4⟩:=h;exact ⟨smI (by grind),smI (by grind),smI (by grind),smI (by grind),trivial⟩
theorem ZIz (l:List Int) (h:l.length<=1048576):ZAK l=some l:=by
 have h2:((([]:List Int).length+l.length)*8<=140737488355328):=by grind
 unfold ZAK;first
  | (rw[Zd h2,List.nil_append])
  | (rw[Zd h2];rfl)
  | rfl
theorem ZIo {s:Zdd} (hs:Src s) {k:Int} (h0:0<=k) (h1:k<=100):ZAH (ZA1 s k) (λr=>ZJe r.1/\Src r.2):=by
 unfold ZA1;refine (ZAn hs 6).bind λr0 ⟨_,g0⟩=>?_;have hl:ZBy k r0.1=some ([(-1:Int)],[(0:Int)],[r0.1],List.replicate (Int.toNat k) (0:Int),()):=by
  unfold ZBy;rw[Zd (by omega),Zd (by omega),Zd (by omega),Zd (by omega)]
 rw[hl,Bq];refine (ZAn g0 4).bind λr1 ⟨⟨a,b⟩,g1⟩=>?_;refine ZAH.loop (λv=>0<=v.1/\(v.2.2.2.2.1.length:Int)+v.1=1+r1.1/\1<=v.2.2.2.2.1.length/\v.2.2.2.2.2.1.length=v.2.2.2.2.1.length/\v.2.2.2.2.2.2.1.length=v.2.2.2.2.1.length/\v.2.2.2.2.2.2.2.1.length<=100/\Src (v.2.1,v.2.2.1,v.2.2.2.1,())) (λv=>v.1.toNat)
  ⟨a,by grind,Nat.le_refl _,rfl,rfl,by grind,g1⟩ ?_
 rintro ⟨n,c0,c1,c2,l1,l2,l3,l4,⟨⟩⟩ ⟨i0,i1,i2,i3,i4,i5,i6⟩;dsimp only at i0 i1 i2 i3 i4 i5 i6;show ZAH (ZCF n c0 c1 c2 l1 l2 l3 l4) _;unfold ZCF;have en:Wq (n-1)=n-1:=Zar (by omega) (by omega);simp only[en];split
 ·rw[ZIz l1 (by omega),Bq,ZIz l2 (by omega),ZIz l3 (by omega)]
  refine (ZAn i6 _).bind λr2 ⟨_,h2⟩=>?_;refine .guard (by grind) ?_;rw[Bq];refine (ZAn h2 _).bind λr3 ⟨_,h3⟩=>?_;refine .guard (by grind) ?_;rw[Bq];refine (ZAn h3 _).bind λr4 ⟨_,h4⟩=>?_;refine .guard (by grind) ?_;refine .ret ⟨⟨by dsimp only;omega,?_,?_,?_,?_,i5,h4⟩,by dsimp only;omega⟩;all_goals grind
 ·refine ZAH.loop (λv=>0<=v.1/\v.1<=100/\v.2.2.2.2.1.length=l4.length/\Src (v.2.1,v.2.2.1,v.2.2.2.1,())) (λv=>(100-v.1).toNat) ⟨by dsimp only;omega,by dsimp only;omega,rfl,i6⟩ ?_
  rintro ⟨p,d0,d1,d2,l,⟨⟩⟩ ⟨j0,j1,j2,j3⟩;dsimp only at j0 j1 j2 j3;show ZAH (ZCE l1 l2 l3 p d0 d1 d2 l) _;unfold ZCE;have ep:Wq (p+1)=p+1:=Zar (by omega) (by omega);simp only[ep];split
  ·rename_i hp
   refine (ZAn j3 _).bind λr2 ⟨_,h2⟩=>?_;refine .at j0 hp λ_ _ _=>?_;exact .ret ⟨⟨by dsimp only;omega,by dsimp only;omega,by grind,h2⟩,by dsimp only;omega⟩
  ·refine .ret ⟨⟨⟨?_,?_⟩,i3,i4,?_⟩,j3⟩
   all_goals grind
structure ZHZ (b:Zj):Prop where
 lib:sm YR (Zj.Library b)
 des:ZJ1 (Zj.Design b)
 wl:(Zj.Qg b).length=(Zg.X7 (Zj.Design b)).length
 wires:∀ w∈Zj.Qg b,ZJe w
theorem ZHZ.sm {b:Zj} (h:ZHZ b):sm Xz b:=by
 have:=h.wl;have:=h.des.nl;have:=h.des.n1;exact ⟨h.lib,h.des.sm,smL (by grind) (λw hw=>(h.wires w hw).sm),trivial⟩
theorem ZHu {s:Zdd} (hs:Src s) {most:Int} (hm1:1<=most) (hm2:most<=9) (wild:Bool):ZAH (ZD4 s most wild) (λr=>ZHZ r.1/\Src r.2):=by
 unfold ZD4;refine (ZKh hs).bind λr0 ⟨hl,h0⟩=>?_;refine (ZIy h0 hm1 hm2 wild).bind λr1 ⟨hd,h1⟩=>?_;have hnl:=hd.nl;have hn1:=hd.n1;refine ZAH.loop (λv=>0<=v.2.1/\v.2.1<=((Zg.X7 r1.1).length:Int)/\(v.1.length:Int)=v.2.1/\(∀ w∈v.1,ZJe w)/\Src (v.2.2.1,v.2.2.2.1,v.2.2.2.2.1,())) (λv=>(100-v.2.1).toNat)
  ⟨by dsimp only;omega,by dsimp only;omega,rfl,λw hw=>(by cases hw),h1⟩ ?_
 rintro ⟨ws,n,c0,c1,c2,⟨⟩⟩ ⟨i0,i1,i2,i3,i4⟩;dsimp only at i0 i1 i2 i3 i4;show ZAH (ZDJ r0 r1 ws n c0 c1 c2) _;unfold ZDJ;have en:Wq (n+1)=n+1:=Zar (by omega) (by omega);simp only[en];split
 ·rename_i hn
  have hn:n<((Zg.X7 r1.1).length:Int):=hn;rw[ZkH r1.1 n hd.few,Bq];have hsl:(Zhl r1.1 n).length<=78:=Nat.le_trans (Zl2 n (Zw r1.1) 0) (V9 hd.few);refine (ZIo i4 (k:=((Zhl r1.1 n).length:Int)) (by omega) (by omega)).bind λr ⟨hw,h2⟩=>?_;refine .guard (by grind) (.ret ⟨⟨by dsimp only;omega,by dsimp only;omega,?_,ZA6 i3 hw,h2⟩,by dsimp only;omega⟩);grind
 ·rename_i hn
  have hn:¬n<((Zg.X7 r1.1).length:Int):=hn;refine .ret ⟨⟨hl.1,hd,?_,i3⟩,i4⟩;grind
def ZEA (c:Zc):Prop:=(Zc.Name c).length<=4
theorem ZGS {s:Zdd} (hs:Src s):ZAH (ZD5 s) (λr=>((1<=r.1.length/\r.1.length<=7)/\∀ c∈r.1,ZEA c)/\Src r.2):=by
 unfold ZD5;refine (ZAn hs 5).bind λr0 ⟨⟨a0,a1⟩,h0⟩=>?_;have e:Wq (1+r0.1)=1+r0.1:=Zar (by omega) (by omega);rw[e];refine ZAH.loop (λv=>0<=v.2.1/\(v.1.length:Int)+v.2.1=1+r0.1/\(∀ c∈v.1,ZEA c)/\Src (v.2.2.1,v.2.2.2.1,v.2.2.2.2.1,())) (λv=>v.2.1.toNat)
  ⟨by dsimp only;omega,by dsimp only[List.length_nil];omega,λx hx=>(by cases hx),h0⟩ ?_
 rintro ⟨l,n,c0,c1,c2,⟨⟩⟩ ⟨i0,i1,i2,i3⟩;dsimp only at i0 i1 i2 i3;show ZAH (ZDL l n c0 c1 c2) _;unfold ZDL;have en:Wq (n-1)=n-1:=Zar (by omega) (by omega);simp only[en];split
 ·rename_i hn
  have nx:∀ (c:Zc) (t:Zdd),ZEA c->Src t->ZAH (some (.inl (l++[c],n-1,t.fst,t.snd.fst,t.snd.snd.fst,()):((List Zc)×Int×(List Int)×Int×Int×Unit) ⊕ ((List Zc)×Zdd)))
    (Rnd (λv:(List Zc)×Int×(List Int)×Int×Int×Unit=>0<=v.2.1/\(v.1.length:Int)+v.2.1=1+r0.1/\(∀ c∈v.1,ZEA c)/\Src (v.2.2.1,v.2.2.2.1,v.2.2.2.2.1,())) (λv=>v.2.1.toNat) n.toNat (λr=>((1<=r.1.length/\r.1.length<=7)/\∀ c∈r.1,ZEA c)/\Src r.2)):=λc t hc ht =>
   .ret ⟨⟨by dsimp only;omega,by dsimp only;simp only[List.length_append,List.length_cons,List.length_nil];omega,ZA6 i2 hc,ht⟩,by dsimp only;omega⟩
  refine (ZAn i3 30).bind λr1 ⟨_,h1⟩=>?_;refine (ZFR (n:=(l.length:Int)) (by omega) (by omega)).bind λnm hnm=>?_;have hcl:∀ x,ZEA (([(99:UInt8)]++nm,x):Zc):=λx=>by
   show ([(99:UInt8)]++nm).length<=4;simp only[List.length_append,List.length_cons,List.length_nil];omega
  refine .guard (by simp only[List.length_cons,List.length_nil];omega) ?_;refine (ZAn h1 20).bind λr2 ⟨_,h2⟩=>?_;refine (ZAn h2 20).bind λr3 ⟨_,h3⟩=>?_;refine (ZAn h3 8).bind λr4 ⟨_,h4⟩=>?_;have per:∀ x∈([(10:Int),(12:Int),(20:Int),(30:Int),(100:Int),(7:Int),(2:Int)]),x≠0:=λx hx=>by
   simp only[List.mem_cons,List.not_mem_nil,or_false] at hx;omega
  split
  ·refine (ZAn h4 7).bind λr5 ⟨⟨b0,b1⟩,h5⟩=>?_
   refine .at b0 (by simp only[List.length_cons,List.length_nil];omega) λx hx _=>?_;refine (ZAn h5 _).bind λr6 ⟨_,h6⟩=>?_;refine (ZAn h6 _).bind λr7 ⟨_,h7⟩=>?_;refine .guard (per x hx) ?_;refine .guard (by simp only[List.length_cons,List.length_nil];omega) ?_;exact nx _ _ (hcl _) h7
  ·refine (ZAn h4 3).bind λr5 ⟨_,h5⟩=>?_
   split
   ·refine (ZAn h5 7).bind λr6 ⟨⟨b0,b1⟩,h6⟩=>?_
    refine .at b0 (by simp only[List.length_cons,List.length_nil];omega) λx hx _=>?_;refine (ZAn h6 _).bind λr7 ⟨_,h7⟩=>?_;refine (ZAn h7 _).bind λr8 ⟨_,h8⟩=>?_;refine .guard (per x hx) ?_;refine .guard (by simp only[List.length_cons,List.length_nil];omega) ?_;exact nx _ _ (hcl _) h8
   ·refine (ZAn h5 _).bind λr6 ⟨_,h6⟩=>?_
    refine (ZAn h6 _).bind λr7 ⟨_,h7⟩=>?_;refine (ZAn h7 _).bind λr8 ⟨_,h8⟩=>?_;refine .guard (by simp only[List.length_cons,List.length_nil];omega) ?_;exact nx _ _ (hcl _) h8
 ·rename_i hn
  refine (ZAn i3 _).bind λr1 ⟨⟨b0,b1⟩,h1⟩=>?_;refine (ZAn h1 30).bind λr2 ⟨_,h2⟩=>?_;have hl:1<=l.length/\l.length<=5:=by omega
  have fs:∀ (i:Nat) (c:Zc) (t:Zdd),ZEA c->Src t->ZAH (some (.inr (List.set l i c,t):((List Zc)×Int×(List Int)×Int×Int×Unit) ⊕ ((List Zc)×Zdd)))
    (Rnd (λv:(List Zc)×Int×(List Int)×Int×Int×Unit=>0<=v.2.1/\(v.1.length:Int)+v.2.1=1+r0.1/\(∀ c∈v.1,ZEA c)/\Src (v.2.2.1,v.2.2.2.1,v.2.2.2.2.1,())) (λv=>v.2.1.toNat) n.toNat (λr=>((1<=r.1.length/\r.1.length<=7)/\∀ c∈r.1,ZEA c)/\Src r.2)):=λi c t hc ht =>
   .ret (show ((1<=(List.set l i c).length/\(List.set l i c).length<=7)/\∀ c'∈List.set l i c,ZEA c')/\Src t from ⟨⟨by rw[List.length_set];omega,ZHE i2 hc⟩,ht⟩)
  have hb1:r1.1<(l.length:Int):=by omega
  have nm:∀ x∈l,(Zc.Name x).length<=4:=i2;split
  ·refine (ZAn h2 2).bind λr3 ⟨_,h3⟩=>?_
   exact .at b0 hb1 λx hx _=>fs _ _ _ (nm x hx) h3
  split
  ·exact .at b0 hb1 λx hx _=>fs _ _ _ (nm x hx) h2
  split
  ·exact .at (by omega) (by omega) λx hx _=>.at b0 hb1 λy _ _=>fs _ _ _ (nm x hx) h2
  split
  ·exact .at b0 hb1 λx hx _=>fs _ _ _ (nm x hx) h2
  split
  ·exact .at b0 hb1 λx hx _=>fs _ _ _ (nm x hx) h2
  split
  ·refine (ZAn h2 2).bind λr3 ⟨_,h3⟩=>?_
   exact .at (by omega) (by omega) λx hx _=>fs _ _ _ (nm x hx) h3
  split;rotate_left
  ·exact .ret (show ((1<=l.length/\l.length<=7)/\∀ c'∈l,ZEA c')/\Src r2.2 from ⟨⟨by omega,i2⟩,h2⟩)
  refine ZAH.loop (λv=>v.1.length<=7/\1<=v.1.length/\∀ c∈v.1,ZEA c) (λv=>7-v.1.length) ⟨by dsimp only;omega,hl.1,i2⟩ ?_;rintro ⟨l',⟨⟩⟩ ⟨j0,j1,j2⟩;dsimp only at j0 j1 j2;show ZAH (ZDK r2 l') _;unfold ZDK;split
  ·refine .at (by omega) (by omega) λx _ _=>?_
   refine (ZFR (n:=(l'.length:Int)) (by omega) (by omega)).bind λnm hnm=>?_;refine .guard (by simp only[List.length_cons,List.length_nil];omega) ?_;refine .guard (by simp only[List.length_cons,List.length_nil];omega) ?_;refine .ret ⟨⟨?_,?_,ZA6 j2 ?_⟩,?_⟩
   ·dsimp only;simp only[List.length_append,List.length_cons,List.length_nil];omega
   ·dsimp only;simp only[List.length_append,List.length_cons,List.length_nil];omega
   ·show ([(120:UInt8)]++nm).length<=4
    simp only[List.length_append,List.length_cons,List.length_nil];omega
   ·dsimp only;simp only[List.length_append,List.length_cons,List.length_nil];omega
  ·exact .ret (show ((1<=l'.length/\l'.length<=7)/\∀ c'∈l',ZEA c')/\Src r2.2 from ⟨⟨⟨j1,j0⟩,j2⟩,h2⟩)
theorem ZJO {l:List Zc} (h:∀ c∈l,ZEA c):ZtA l:=λc hc=>by
 have:=h c hc;unfold ZEA at this;omega
def ZHo (e:Ze):Prop:=(Ze.From e).length<=1/\(Ze.Through e).length<=1/\(Ze.To e).length<=1
structure ZLq (x:Zo):Prop where
 c0:1<=(Zo.Yk x).length
 c1:(Zo.Yk x).length<=7
 cn:∀ c∈Zo.Yk x,ZEA c
 i1:(Zo.Zbb x).length<=100
 o1:(Zo.Vp x).length<=100
 e1:(Zo.Exceptions x).length<=100
 ee:∀ e∈Zo.Exceptions x,ZHo e
 k0:1<=(Zo.X5 x).length
 k1:(Zo.X5 x).length<=2
 kn:∀ c∈Zo.X5 x,(Zm.Name c).length<=4
abbrev ZH0 (r:Zj×Zo×Zdd):Prop:=ZHZ r.1/\ZLq r.2.1/\Src r.2.2
theorem ZD8:∀ c∈([([(116:UInt8),(121:UInt8),(112:UInt8)],(1000:Int),(1000:Int),(1000:Int),(1000:Int),())]:List Zm),(Zm.Name c).length<=4:=λc hc=>by
 rw[List.mem_singleton] at hc;rw[hc];show 3<=4;omega
abbrev ZJc:=(List Ze)×Int×(List Int)×Int×Int×Unit
abbrev ZHs:=(List Zh)×(List Zh)×Int×(List Int)×Int×Int×Unit
abbrev ZFY:=Int×(List Int)×Int×Int×(List Zc)×Unit
theorem ZJu {D:Zj×Zdd} (hD:ZHZ D.1) {P:List Ya} {cs:List Zc} (hc0:1<=cs.length) (hc1:cs.length<=7) (hcn:∀ c∈cs,ZEA c) {ins outs:List Zh} (hi:ins.length<=100) (ho:outs.length<=100)
  {n:Int} (n0:0<=n) (n1:n<=3) {s:Zdd} (hs:Src s) {Q:ZHs ⊕ (ZFY ⊕ (Zj×Zo×Zdd))->Prop} (hQ:∀ r,ZH0 r->Q (.inr (.inr r))) :
  ZAH (Zq (λv=>ZCK D P cs ins outs v.1 v.2.1 v.2.2.1 v.2.2.2.1 v.2.2.2.2.1) (([]:List Ze),n,s.fst,s.snd.fst,s.snd.snd.fst,())) Q:=by
 refine ZAH.loop (λv:ZJc=>0<=v.2.1/\v.2.1<=3/\(v.1.length:Int)+v.2.1<=3/\(∀ e∈v.1,ZHo e)/\Src (v.2.2.1,v.2.2.2.1,v.2.2.2.2.1,())) (λv=>v.2.1.toNat) ⟨n0,n1,by dsimp only[List.length_nil];omega,λx hx=>(by cases hx),hs⟩ ?_;rintro ⟨l,k,c0,c1,c2,⟨⟩⟩ ⟨i0,i1,i2,i3,i4⟩;dsimp only at i0 i1 i2 i3 i4;show ZAH (ZCK D P cs ins outs l k c0 c1 c2) _;unfold ZCK;have en:Wq (k-1)=k-1:=Zar (by omega) (by omega);simp only[en];split
 ·have nx:∀ (e:Ze) (t:Zdd),ZHo e->Src t->ZAH (some (.inl (l++[e],k-1,t.fst,t.snd.fst,t.snd.snd.fst,()):ZJc ⊕ (ZHs ⊕ (ZFY ⊕ (Zj×Zo×Zdd)))))
    (Rnd (λv:ZJc=>0<=v.2.1/\v.2.1<=3/\(v.1.length:Int)+v.2.1<=3/\(∀ e∈v.1,ZHo e)/\Src (v.2.2.1,v.2.2.2.1,v.2.2.2.2.1,())) (λv=>v.2.1.toNat) k.toNat Q):=λe t he ht =>
   .ret ⟨⟨by dsimp only;omega,by dsimp only;omega,by dsimp only;simp only[List.length_append,List.length_cons,List.length_nil];omega,ZA6 i3 he,ht⟩,by dsimp only;omega⟩
  have d0:∀ a b:Int,ZHo ((a,b,([]:List Int),([]:List Int),([]:List Int),()):Ze):=λa b=>⟨Nat.zero_le _,Nat.zero_le _,Nat.zero_le _⟩;have d1:∀ a b c:Int,ZHo ((a,b,([]:List Int),([]:List Int),[c],()):Ze):=λa b c=>⟨Nat.zero_le _,Nat.zero_le _,Nat.le_refl _⟩;repeat' first
   | exact nx _ _ (d0 _ _) (by assumption)
   | exact nx _ _ (d1 _ _ _) (by assumption)
   | split
   | refine ZAH.guard (by simp only[List.length_append,List.length_cons,List.length_nil];omega) ?_
   | refine (ZAn (by assumption) _).bind λ_ ⟨_,_⟩=>?_
 ·refine (ZAn i4 2).bind λr ⟨_,h1⟩=>?_
  have hl:l.length<=100:=by omega
  split
  ·refine .ret (hQ _ ⟨hD,⟨hc0,hc1,hcn,hi,ho,hl,i3,?_,?_,ZA6 ZD8 ?_⟩,h1⟩)
   ·show 1<=([_]++[_]).length;simp
   ·show ([_]++[_]).length<=2;simp
   ·show 4<=4;omega
  ·exact .ret (hQ _ ⟨hD,⟨hc0,hc1,hcn,hi,ho,hl,i3,Nat.le_refl _,by show 1<=2;omega,ZD8⟩,h1⟩)
theorem ZJz {D:Zj×Zdd} (hD:ZHZ D.1) {P:List Ya} (hP:P.length<=78) (hP2:(Zg.Xb (Zj.Design D.1)).length<=P.length) {A:Int×Zdd} {cs:List Zc} (hc0:1<=cs.length) (hc1:cs.length<=7) (hcn:∀ c∈cs,ZEA c)
  {s:Zdd} (hs:Src s) {Q:ZFY ⊕ (Zj×Zo×Zdd)->Prop} (hQ:∀ r,ZH0 r->Q (.inr r)) :
  ZAH (Zq (λv=>ZCL D P A cs v.1 v.2.1 v.2.2.1 v.2.2.2.1 v.2.2.2.2.1 v.2.2.2.2.2.1) (([]:List Zh),([]:List Zh),Wq ((P.length:Int)-((Zg.Xb (Zj.Design D.1)).length:Int)),s.fst,s.snd.fst,s.snd.snd.fst,())) Q:=by
 rw[Zar (n:=(P.length:Int)-((Zg.Xb (Zj.Design D.1)).length:Int)) (by omega) (by omega)];refine ZAH.loop (λv:ZHs=>0<=v.2.2.1/\v.2.2.1<=(P.length:Int)/\(v.1.length:Int)<=v.2.2.1/\(v.2.1.length:Int)<=v.2.2.1/\Src (v.2.2.2.1,v.2.2.2.2.1,v.2.2.2.2.2.1,())) (λv=>(100-v.2.2.1).toNat)
  ⟨by dsimp only;omega,by dsimp only;omega,by dsimp only[List.length_nil];omega,by dsimp only[List.length_nil];omega,hs⟩ ?_
 rintro ⟨ins,outs,p,c0,c1,c2,⟨⟩⟩ ⟨i0,i1,i2,i3,i4⟩;dsimp only at i0 i1 i2 i3 i4;show ZAH (ZCL D P A cs ins outs p c0 c1 c2) _;unfold ZCL;have en:Wq (p+1)=p+1:=Zar (by omega) (by omega);simp only[en];split
 ·rename_i hp
  have nx:∀ (a b:List Zh) (t:Zdd),(a.length:Int)<=p+1->(b.length:Int)<=p+1->Src t->ZAH (some (.inl (a,b,p+1,t.fst,t.snd.fst,t.snd.snd.fst,()):ZHs ⊕ (ZFY ⊕ (Zj×Zo×Zdd))))
    (Rnd (λv:ZHs=>0<=v.2.2.1/\v.2.2.1<=(P.length:Int)/\(v.1.length:Int)<=v.2.2.1/\(v.2.1.length:Int)<=v.2.2.1/\Src (v.2.2.2.1,v.2.2.2.2.1,v.2.2.2.2.2.1,())) (λv=>(100-v.2.2.1).toNat) (100-p).toNat Q):=λa b t ha hb ht =>
   .ret ⟨⟨by dsimp only;omega,by dsimp only;omega,ha,hb,ht⟩,by dsimp only;omega⟩
  refine (ZAn i4 60).bind λr1 ⟨_,h1⟩=>?_;refine (ZAn h1 _).bind λr2 ⟨_,h2⟩=>?_;refine (ZAn h2 30).bind λr3 ⟨_,h3⟩=>?_;refine .at i0 hp λx _ _=>?_;repeat' first
   | exact nx _ _ _ (by omega) (by omega) (by assumption)
   | exact nx _ _ _ (by first | omega | (simp only[List.length_append,List.length_cons,List.length_nil];omega)) (by first | omega | (simp only[List.length_append,List.length_cons,List.length_nil];omega)) (by assumption)
   | split
   | refine ZAH.guard (by simp only[List.length_append,List.length_cons,List.length_nil];omega) ?_
   | refine (ZAn (by assumption) _).bind λ_ ⟨_,_⟩=>?_
 ·refine (ZAn i4 3).bind λr ⟨⟨a,b⟩,h1⟩=>?_
  exact ZJu hD hc0 hc1 hcn (by omega) (by omega) a (by omega) h1 (λr hr=>hQ r hr)
theorem ZJn {D:Zj×Zdd} (hD:ZHZ D.1) {P:List Ya} (hP:P.length<=78) (hP2:(Zg.Xb (Zj.Design D.1)).length<=P.length) {A:Int×Zdd}
  {s:Zdd} (hs:Src s) :
  ZAH (Zq (λv=>ZBT D P A v.1 v.2.1 v.2.2.1 v.2.2.2.1 v.2.2.2.2.1) ((0:Int),s.fst,s.snd.fst,s.snd.snd.fst,([]:List Zc),())) ZH0:=by
 refine ZAH.loop (λv:ZFY=>0<=v.1/\v.1<=7/\(v.2.2.2.2.1.length:Int)=v.1/\(∀ c∈v.2.2.2.2.1,ZEA c)/\Src (v.2.1,v.2.2.1,v.2.2.2.1,())) (λv=>(7-v.1).toNat)
  ⟨by dsimp only;omega,by dsimp only;omega,rfl,λx hx=>(by cases hx),hs⟩ ?_
 rintro ⟨p,c0,c1,c2,cs,⟨⟩⟩ ⟨i0,i1,i2,i3,i4⟩;dsimp only at i0 i1 i2 i3 i4;show ZAH (ZBT D P A p c0 c1 c2 cs) _;unfold ZBT;have en:Wq (p+1)=p+1:=Zar (by omega) (by omega);simp only[en];split
 ·rename_i hp
  have hp7:p<7:=by simp only[List.length_cons,List.length_nil] at hp;omega
  refine .at i0 hp λx hx _=>?_;have hxn:ZEA x:=by
   rw[List.mem_singleton] at hx;rw[hx];show 4<=4;omega
  have nx:∀ (c:Zc) (t:Zdd),ZEA c->Src t->ZAH (some (.inl (p+1,t.fst,t.snd.fst,t.snd.snd.fst,([]:List Zc)++cs++[c],()):ZFY ⊕ (Zj×Zo×Zdd)))
    (Rnd (λv:ZFY=>0<=v.1/\v.1<=7/\(v.2.2.2.2.1.length:Int)=v.1/\(∀ c∈v.2.2.2.2.1,ZEA c)/\Src (v.2.1,v.2.2.1,v.2.2.2.1,())) (λv=>(7-v.1).toNat) (7-p).toNat ZH0):=λc t hc ht =>
   .ret ⟨⟨by dsimp only;omega,by dsimp only;omega,by dsimp only;simp only[List.length_append,List.length_cons,List.length_nil];omega,ZA6 (by rw[List.nil_append];exact i3) hc,ht⟩,by dsimp only;omega⟩
  split
  ·refine (ZAn i4 _).bind λr ⟨_,h1⟩=>?_
   refine .guard (by simp only[List.length_append,List.length_cons,List.length_nil];omega) ?_;refine .guard (by simp only[List.length_append,List.length_cons,List.length_nil];omega) ?_;exact nx _ _ hxn h1
  ·refine .guard (by simp only[List.length_append,List.length_cons,List.length_nil];omega) ?_
   refine .guard (by simp only[List.length_append,List.length_cons,List.length_nil];omega) ?_;exact nx _ (c0,c1,c2,()) hxn i4
 ·rename_i hp
  simp only[List.length_cons,List.length_nil] at hp;exact ZJz hD hP hP2 (by omega) (by omega) i3 (s:=(c0,c1,c2,())) i4 (λr hr=>hr)
theorem ZJv {D:Zj×Zdd} (hD:ZHZ D.1) {P:List Ya} {cs:List Zc} (hc0:1<=cs.length) (hc1:cs.length<=7) (hcn:∀ c∈cs,ZEA c) {ins outs:List Zh} (hi:ins.length<=100) (ho:outs.length<=100)
  {n:Int} (n0:0<=n) (n1:n<=3) {s:Zdd} (hs:Src s) {Q:ZHs ⊕ (ZFY ⊕ (Zj×Zo×Zdd))->Prop} (hQ:∀ r,ZH0 r->Q (.inr (.inr r))) :
  ZAH (Zq (λv=>ZCM D P cs ins outs v.1 v.2.1 v.2.2.1 v.2.2.2.1 v.2.2.2.2.1) (([]:List Ze),n,s.fst,s.snd.fst,s.snd.snd.fst,())) Q:=by
 refine ZAH.loop (λv:ZJc=>0<=v.2.1/\v.2.1<=3/\(v.1.length:Int)+v.2.1<=3/\(∀ e∈v.1,ZHo e)/\Src (v.2.2.1,v.2.2.2.1,v.2.2.2.2.1,())) (λv=>v.2.1.toNat) ⟨n0,n1,by dsimp only[List.length_nil];omega,λx hx=>(by cases hx),hs⟩ ?_;rintro ⟨l,k,c0,c1,c2,⟨⟩⟩ ⟨i0,i1,i2,i3,i4⟩;dsimp only at i0 i1 i2 i3 i4;show ZAH (ZCM D P cs ins outs l k c0 c1 c2) _;unfold ZCM;have en:Wq (k-1)=k-1:=Zar (by omega) (by omega);simp only[en];split
 ·have nx:∀ (e:Ze) (t:Zdd),ZHo e->Src t->ZAH (some (.inl (l++[e],k-1,t.fst,t.snd.fst,t.snd.snd.fst,()):ZJc ⊕ (ZHs ⊕ (ZFY ⊕ (Zj×Zo×Zdd)))))
    (Rnd (λv:ZJc=>0<=v.2.1/\v.2.1<=3/\(v.1.length:Int)+v.2.1<=3/\(∀ e∈v.1,ZHo e)/\Src (v.2.2.1,v.2.2.2.1,v.2.2.2.2.1,())) (λv=>v.2.1.toNat) k.toNat Q):=λe t he ht =>
   .ret ⟨⟨by dsimp only;omega,by dsimp only;omega,by dsimp only;simp only[List.length_append,List.length_cons,List.length_nil];omega,ZA6 i3 he,ht⟩,by dsimp only;omega⟩
  have d0:∀ a b:Int,ZHo ((a,b,([]:List Int),([]:List Int),([]:List Int),()):Ze):=λa b=>⟨Nat.zero_le _,Nat.zero_le _,Nat.zero_le _⟩;have d1:∀ a b c:Int,ZHo ((a,b,([]:List Int),([]:List Int),[c],()):Ze):=λa b c=>⟨Nat.zero_le _,Nat.zero_le _,Nat.le_refl _⟩;repeat' first
   | exact nx _ _ (d0 _ _) (by assumption)
   | exact nx _ _ (d1 _ _ _) (by assumption)
   | split
   | refine ZAH.guard (by simp only[List.length_append,List.length_cons,List.length_nil];omega) ?_
   | refine (ZAn (by assumption) _).bind λ_ ⟨_,_⟩=>?_
 ·refine (ZAn i4 2).bind λr ⟨_,h1⟩=>?_
  have hl:l.length<=100:=by omega
  split
  ·refine .ret (hQ _ ⟨hD,⟨hc0,hc1,hcn,hi,ho,hl,i3,?_,?_,ZA6 ZD8 ?_⟩,h1⟩)
   ·show 1<=([_]++[_]).length;simp
   ·show ([_]++[_]).length<=2;simp
   ·show 4<=4;omega
  ·exact .ret (hQ _ ⟨hD,⟨hc0,hc1,hcn,hi,ho,hl,i3,Nat.le_refl _,by show 1<=2;omega,ZD8⟩,h1⟩)
theorem ZJA {D:Zj×Zdd} (hD:ZHZ D.1) {P:List Ya} (hP:P.length<=78) (hP2:(Zg.Xb (Zj.Design D.1)).length<=P.length) {A:List Zc×Zdd} {cs:List Zc} (hc0:1<=cs.length) (hc1:cs.length<=7) (hcn:∀ c∈cs,ZEA c)
  {s:Zdd} (hs:Src s) {Q:ZFY ⊕ (Zj×Zo×Zdd)->Prop} (hQ:∀ r,ZH0 r->Q (.inr r)) :
  ZAH (Zq (λv=>ZCN D P A cs v.1 v.2.1 v.2.2.1 v.2.2.2.1 v.2.2.2.2.1 v.2.2.2.2.2.1) (([]:List Zh),([]:List Zh),Wq ((P.length:Int)-((Zg.Xb (Zj.Design D.1)).length:Int)),s.fst,s.snd.fst,s.snd.snd.fst,())) Q:=by
 rw[Zar (n:=(P.length:Int)-((Zg.Xb (Zj.Design D.1)).length:Int)) (by omega) (by omega)];refine ZAH.loop (λv:ZHs=>0<=v.2.2.1/\v.2.2.1<=(P.length:Int)/\(v.1.length:Int)<=v.2.2.1/\(v.2.1.length:Int)<=v.2.2.1/\Src (v.2.2.2.1,v.2.2.2.2.1,v.2.2.2.2.2.1,())) (λv=>(100-v.2.2.1).toNat)
  ⟨by dsimp only;omega,by dsimp only;omega,by dsimp only[List.length_nil];omega,by dsimp only[List.length_nil];omega,hs⟩ ?_
 rintro ⟨ins,outs,p,c0,c1,c2,⟨⟩⟩ ⟨i0,i1,i2,i3,i4⟩;dsimp only at i0 i1 i2 i3 i4;show ZAH (ZCN D P A cs ins outs p c0 c1 c2) _;unfold ZCN;have en:Wq (p+1)=p+1:=Zar (by omega) (by omega);simp only[en];split
 ·rename_i hp
  have nx:∀ (a b:List Zh) (t:Zdd),(a.length:Int)<=p+1->(b.length:Int)<=p+1->Src t->ZAH (some (.inl (a,b,p+1,t.fst,t.snd.fst,t.snd.snd.fst,()):ZHs ⊕ (ZFY ⊕ (Zj×Zo×Zdd))))
    (Rnd (λv:ZHs=>0<=v.2.2.1/\v.2.2.1<=(P.length:Int)/\(v.1.length:Int)<=v.2.2.1/\(v.2.1.length:Int)<=v.2.2.1/\Src (v.2.2.2.1,v.2.2.2.2.1,v.2.2.2.2.2.1,())) (λv=>(100-v.2.2.1).toNat) (100-p).toNat Q):=λa b t ha hb ht =>
   .ret ⟨⟨by dsimp only;omega,by dsimp only;omega,ha,hb,ht⟩,by dsimp only;omega⟩
  refine (ZAn i4 60).bind λr1 ⟨_,h1⟩=>?_;refine (ZAn h1 _).bind λr2 ⟨_,h2⟩=>?_;refine (ZAn h2 30).bind λr3 ⟨_,h3⟩=>?_;refine .at i0 hp λx _ _=>?_;repeat' first
   | exact nx _ _ _ (by omega) (by omega) (by assumption)
   | exact nx _ _ _ (by first | omega | (simp only[List.length_append,List.length_cons,List.length_nil];omega)) (by first | omega | (simp only[List.length_append,List.length_cons,List.length_nil];omega)) (by assumption)
   | split
   | refine ZAH.guard (by simp only[List.length_append,List.length_cons,List.length_nil];omega) ?_
   | refine (ZAn (by assumption) _).bind λ_ ⟨_,_⟩=>?_
 ·refine (ZAn i4 3).bind λr ⟨⟨a,b⟩,h1⟩=>?_
  exact ZJv hD hc0 hc1 hcn (by omega) (by omega) a (by omega) h1 (λr hr=>hQ r hr)
theorem ZJo {D:Zj×Zdd} (hD:ZHZ D.1) {P:List Ya} (hP:P.length<=78) (hP2:(Zg.Xb (Zj.Design D.1)).length<=P.length) {A:List Zc×Zdd} (hA:1<=A.1.length/\A.1.length<=7) (hAn:∀ c∈A.1,ZEA c)
  {s:Zdd} (hs:Src s) :
  ZAH (Zq (λv=>ZCO D P A v.1 v.2.1 v.2.2.1 v.2.2.2.1 v.2.2.2.2.1) ((0:Int),s.fst,s.snd.fst,s.snd.snd.fst,([]:List Zc),())) ZH0:=by
 refine ZAH.loop (λv:ZFY=>0<=v.1/\v.1<=7/\(v.2.2.2.2.1.length:Int)=v.1/\(∀ c∈v.2.2.2.2.1,ZEA c)/\Src (v.2.1,v.2.2.1,v.2.2.2.1,())) (λv=>(7-v.1).toNat)
  ⟨by dsimp only;omega,by dsimp only;omega,rfl,λx hx=>(by cases hx),hs⟩ ?_
 rintro ⟨p,c0,c1,c2,cs,⟨⟩⟩ ⟨i0,i1,i2,i3,i4⟩;dsimp only at i0 i1 i2 i3 i4;show ZAH (ZCO D P A p c0 c1 c2 cs) _;unfold ZCO;have en:Wq (p+1)=p+1:=Zar (by omega) (by omega);simp only[en];split
 ·rename_i hp
  have hp7:p<7:=by omega
  refine .at i0 hp λx hx _=>?_;have hxn:ZEA x:=hAn x hx;have nx:∀ (c:Zc) (t:Zdd),ZEA c->Src t->ZAH (some (.inl (p+1,t.fst,t.snd.fst,t.snd.snd.fst,([]:List Zc)++cs++[c],()):ZFY ⊕ (Zj×Zo×Zdd)))
    (Rnd (λv:ZFY=>0<=v.1/\v.1<=7/\(v.2.2.2.2.1.length:Int)=v.1/\(∀ c∈v.2.2.2.2.1,ZEA c)/\Src (v.2.1,v.2.2.1,v.2.2.2.1,())) (λv=>(7-v.1).toNat) (7-p).toNat ZH0):=λc t hc ht =>
   .ret ⟨⟨by dsimp only;omega,by dsimp only;omega,by dsimp only;simp only[List.length_append,List.length_cons,List.length_nil];omega,ZA6 (by rw[List.nil_append];exact i3) hc,ht⟩,by dsimp only;omega⟩
  split
  ·refine (ZAn i4 _).bind λr ⟨_,h1⟩=>?_
   refine .guard (by simp only[List.length_append,List.length_cons,List.length_nil];omega) ?_;refine .guard (by simp only[List.length_append,List.length_cons,List.length_nil];omega) ?_;exact nx _ _ hxn h1
  ·refine .guard (by simp only[List.length_append,List.length_cons,List.length_nil];omega) ?_
   refine .guard (by simp only[List.length_append,List.length_cons,List.length_nil];omega) ?_;exact nx _ (c0,c1,c2,()) hxn i4
 ·rename_i hp
  exact ZJA hD hP hP2 (by omega) (by omega) i3 (s:=(c0,c1,c2,())) i4 (λr hr=>hr)
theorem ZJw {D:Zj×Zdd} (hD:ZHZ D.1) {P:List Ya} {cs:List Zc} (hc0:1<=cs.length) (hc1:cs.length<=7) (hcn:∀ c∈cs,ZEA c) {ins outs:List Zh} (hi:ins.length<=100) (ho:outs.length<=100)
  {n:Int} (n0:0<=n) (n1:n<=3) {s:Zdd} (hs:Src s) {Q:ZHs ⊕ (ZFY ⊕ (Zj×Zo×Zdd))->Prop} (hQ:∀ r,ZH0 r->Q (.inr (.inr r))) :
  ZAH (Zq (λv=>ZCP D P cs ins outs v.1 v.2.1 v.2.2.1 v.2.2.2.1 v.2.2.2.2.1) (([]:List Ze),n,s.fst,s.snd.fst,s.snd.snd.fst,())) Q:=by
 refine ZAH.loop (λv:ZJc=>0<=v.2.1/\v.2.1<=3/\(v.1.length:Int)+v.2.1<=3/\(∀ e∈v.1,ZHo e)/\Src (v.2.2.1,v.2.2.2.1,v.2.2.2.2.1,())) (λv=>v.2.1.toNat) ⟨n0,n1,by dsimp only[List.length_nil];omega,λx hx=>(by cases hx),hs⟩ ?_;rintro ⟨l,k,c0,c1,c2,⟨⟩⟩ ⟨i0,i1,i2,i3,i4⟩;dsimp only at i0 i1 i2 i3 i4;show ZAH (ZCP D P cs ins outs l k c0 c1 c2) _;unfold ZCP;have en:Wq (k-1)=k-1:=Zar (by omega) (by omega);simp only[en];split
 ·have nx:∀ (e:Ze) (t:Zdd),ZHo e->Src t->ZAH (some (.inl (l++[e],k-1,t.fst,t.snd.fst,t.snd.snd.fst,()):ZJc ⊕ (ZHs ⊕ (ZFY ⊕ (Zj×Zo×Zdd)))))
    (Rnd (λv:ZJc=>0<=v.2.1/\v.2.1<=3/\(v.1.length:Int)+v.2.1<=3/\(∀ e∈v.1,ZHo e)/\Src (v.2.2.1,v.2.2.2.1,v.2.2.2.2.1,())) (λv=>v.2.1.toNat) k.toNat Q):=λe t he ht =>
   .ret ⟨⟨by dsimp only;omega,by dsimp only;omega,by dsimp only;simp only[List.length_append,List.length_cons,List.length_nil];omega,ZA6 i3 he,ht⟩,by dsimp only;omega⟩
  have d0:∀ a b:Int,ZHo ((a,b,([]:List Int),([]:List Int),([]:List Int),()):Ze):=λa b=>⟨Nat.zero_le _,Nat.zero_le _,Nat.zero_le _⟩;have d1:∀ a b c:Int,ZHo ((a,b,([]:List Int),([]:List Int),[c],()):Ze):=λa b c=>⟨Nat.zero_le _,Nat.zero_le _,Nat.le_refl _⟩;repeat' first
   | exact nx _ _ (d0 _ _) (by assumption)
   | exact nx _ _ (d1 _ _ _) (by assumption)
   | split
   | refine ZAH.guard (by simp only[List.length_append,List.length_cons,List.length_nil];omega) ?_
   | refine (ZAn (by assumption) _).bind λ_ ⟨_,_⟩=>?_
 ·refine (ZAn i4 2).bind λr ⟨_,h1⟩=>?_
  have hl:l.length<=100:=by omega
  split
  ·refine .ret (hQ _ ⟨hD,⟨hc0,hc1,hcn,hi,ho,hl,i3,?_,?_,ZA6 ZD8 ?_⟩,h1⟩)
   ·show 1<=([_]++[_]).length;simp
   ·show ([_]++[_]).length<=2;simp
   ·show 4<=4;omega
  ·exact .ret (hQ _ ⟨hD,⟨hc0,hc1,hcn,hi,ho,hl,i3,Nat.le_refl _,by show 1<=2;omega,ZD8⟩,h1⟩)
theorem ZJB {D:Zj×Zdd} (hD:ZHZ D.1) {P:List Ya} (hP:P.length<=78) (hP2:(Zg.Xb (Zj.Design D.1)).length<=P.length) {A:Int×Zdd} {cs:List Zc} (hc0:1<=cs.length) (hc1:cs.length<=7) (hcn:∀ c∈cs,ZEA c)
  {s:Zdd} (hs:Src s) {Q:ZFY ⊕ (Zj×Zo×Zdd)->Prop} (hQ:∀ r,ZH0 r->Q (.inr r)) :
  ZAH (Zq (λv=>ZCQ D P A cs v.1 v.2.1 v.2.2.1 v.2.2.2.1 v.2.2.2.2.1 v.2.2.2.2.2.1) (([]:List Zh),([]:List Zh),Wq ((P.length:Int)-((Zg.Xb (Zj.Design D.1)).length:Int)),s.fst,s.snd.fst,s.snd.snd.fst,())) Q:=by
 rw[Zar (n:=(P.length:Int)-((Zg.Xb (Zj.Design D.1)).length:Int)) (by omega) (by omega)];refine ZAH.loop (λv:ZHs=>0<=v.2.2.1/\v.2.2.1<=(P.length:Int)/\(v.1.length:Int)<=v.2.2.1/\(v.2.1.length:Int)<=v.2.2.1/\Src (v.2.2.2.1,v.2.2.2.2.1,v.2.2.2.2.2.1,())) (λv=>(100-v.2.2.1).toNat)
  ⟨by dsimp only;omega,by dsimp only;omega,by dsimp only[List.length_nil];omega,by dsimp only[List.length_nil];omega,hs⟩ ?_
 rintro ⟨ins,outs,p,c0,c1,c2,⟨⟩⟩ ⟨i0,i1,i2,i3,i4⟩;dsimp only at i0 i1 i2 i3 i4;show ZAH (ZCQ D P A cs ins outs p c0 c1 c2) _;unfold ZCQ;have en:Wq (p+1)=p+1:=Zar (by omega) (by omega);simp only[en];split
 ·rename_i hp
  have nx:∀ (a b:List Zh) (t:Zdd),(a.length:Int)<=p+1->(b.length:Int)<=p+1->Src t->ZAH (some (.inl (a,b,p+1,t.fst,t.snd.fst,t.snd.snd.fst,()):ZHs ⊕ (ZFY ⊕ (Zj×Zo×Zdd))))
    (Rnd (λv:ZHs=>0<=v.2.2.1/\v.2.2.1<=(P.length:Int)/\(v.1.length:Int)<=v.2.2.1/\(v.2.1.length:Int)<=v.2.2.1/\Src (v.2.2.2.1,v.2.2.2.2.1,v.2.2.2.2.2.1,())) (λv=>(100-v.2.2.1).toNat) (100-p).toNat Q):=λa b t ha hb ht =>
   .ret ⟨⟨by dsimp only;omega,by dsimp only;omega,ha,hb,ht⟩,by dsimp only;omega⟩
  refine (ZAn i4 60).bind λr1 ⟨_,h1⟩=>?_;refine (ZAn h1 _).bind λr2 ⟨_,h2⟩=>?_;refine (ZAn h2 30).bind λr3 ⟨_,h3⟩=>?_;refine .at i0 hp λx _ _=>?_;repeat' first
   | exact nx _ _ _ (by omega) (by omega) (by assumption)
   | exact nx _ _ _ (by first | omega | (simp only[List.length_append,List.length_cons,List.length_nil];omega)) (by first | omega | (simp only[List.length_append,List.length_cons,List.length_nil];omega)) (by assumption)
   | split
   | refine ZAH.guard (by simp only[List.length_append,List.length_cons,List.length_nil];omega) ?_
   | refine (ZAn (by assumption) _).bind λ_ ⟨_,_⟩=>?_
 ·refine (ZAn i4 3).bind λr ⟨⟨a,b⟩,h1⟩=>?_
  exact ZJw hD hc0 hc1 hcn (by omega) (by omega) a (by omega) h1 (λr hr=>hQ r hr)
theorem ZJp {D:Zj×Zdd} (hD:ZHZ D.1) {P:List Ya} (hP:P.length<=78) (hP2:(Zg.Xb (Zj.Design D.1)).length<=P.length) {A:Int×Zdd}
  {s:Zdd} (hs:Src s) :
  ZAH (Zq (λv=>ZBU D P A v.1 v.2.1 v.2.2.1 v.2.2.2.1 v.2.2.2.2.1) ((0:Int),s.fst,s.snd.fst,s.snd.snd.fst,([]:List Zc),())) ZH0:=by
 refine ZAH.loop (λv:ZFY=>0<=v.1/\v.1<=7/\(v.2.2.2.2.1.length:Int)=v.1/\(∀ c∈v.2.2.2.2.1,ZEA c)/\Src (v.2.1,v.2.2.1,v.2.2.2.1,())) (λv=>(7-v.1).toNat)
  ⟨by dsimp only;omega,by dsimp only;omega,rfl,λx hx=>(by cases hx),hs⟩ ?_
 rintro ⟨p,c0,c1,c2,cs,⟨⟩⟩ ⟨i0,i1,i2,i3,i4⟩;dsimp only at i0 i1 i2 i3 i4;show ZAH (ZBU D P A p c0 c1 c2 cs) _;unfold ZBU;have en:Wq (p+1)=p+1:=Zar (by omega) (by omega);simp only[en];split
 ·rename_i hp
  have hp7:p<7:=by simp only[List.length_cons,List.length_nil] at hp;omega
  refine .at i0 hp λx hx _=>?_;have hxn:ZEA x:=by
   rw[List.mem_singleton] at hx;rw[hx];show 4<=4;omega
  have nx:∀ (c:Zc) (t:Zdd),ZEA c->Src t->ZAH (some (.inl (p+1,t.fst,t.snd.fst,t.snd.snd.fst,([]:List Zc)++cs++[c],()):ZFY ⊕ (Zj×Zo×Zdd)))
    (Rnd (λv:ZFY=>0<=v.1/\v.1<=7/\(v.2.2.2.2.1.length:Int)=v.1/\(∀ c∈v.2.2.2.2.1,ZEA c)/\Src (v.2.1,v.2.2.1,v.2.2.2.1,())) (λv=>(7-v.1).toNat) (7-p).toNat ZH0):=λc t hc ht =>
   .ret ⟨⟨by dsimp only;omega,by dsimp only;omega,by dsimp only;simp only[List.length_append,List.length_cons,List.length_nil];omega,ZA6 (by rw[List.nil_append];exact i3) hc,ht⟩,by dsimp only;omega⟩
  split
  ·refine (ZAn i4 _).bind λr ⟨_,h1⟩=>?_
   refine .guard (by simp only[List.length_append,List.length_cons,List.length_nil];omega) ?_;refine .guard (by simp only[List.length_append,List.length_cons,List.length_nil];omega) ?_;exact nx _ _ hxn h1
  ·refine .guard (by simp only[List.length_append,List.length_cons,List.length_nil];omega) ?_
   refine .guard (by simp only[List.length_append,List.length_cons,List.length_nil];omega) ?_;exact nx _ (c0,c1,c2,()) hxn i4
 ·rename_i hp
  simp only[List.length_cons,List.length_nil] at hp;exact ZJB hD hP hP2 (by omega) (by omega) i3 (s:=(c0,c1,c2,())) i4 (λr hr=>hr)
theorem ZJx {D:Zj×Zdd} (hD:ZHZ D.1) {P:List Ya} {cs:List Zc} (hc0:1<=cs.length) (hc1:cs.length<=7) (hcn:∀ c∈cs,ZEA c) {ins outs:List Zh} (hi:ins.length<=100) (ho:outs.length<=100)
  {n:Int} (n0:0<=n) (n1:n<=3) {s:Zdd} (hs:Src s) {Q:ZHs ⊕ (ZFY ⊕ (Zj×Zo×Zdd))->Prop} (hQ:∀ r,ZH0 r->Q (.inr (.inr r))) :
  ZAH (Zq (λv=>ZCR D P cs ins outs v.1 v.2.1 v.2.2.1 v.2.2.2.1 v.2.2.2.2.1) (([]:List Ze),n,s.fst,s.snd.fst,s.snd.snd.fst,())) Q:=by
 refine ZAH.loop (λv:ZJc=>0<=v.2.1/\v.2.1<=3/\(v.1.length:Int)+v.2.1<=3/\(∀ e∈v.1,ZHo e)/\Src (v.2.2.1,v.2.2.2.1,v.2.2.2.2.1,())) (λv=>v.2.1.toNat) ⟨n0,n1,by dsimp only[List.length_nil];omega,λx hx=>(by cases hx),hs⟩ ?_;rintro ⟨l,k,c0,c1,c2,⟨⟩⟩ ⟨i0,i1,i2,i3,i4⟩;dsimp only at i0 i1 i2 i3 i4;show ZAH (ZCR D P cs ins outs l k c0 c1 c2) _;unfold ZCR;have en:Wq (k-1)=k-1:=Zar (by omega) (by omega);simp only[en];split
 ·have nx:∀ (e:Ze) (t:Zdd),ZHo e->Src t->ZAH (some (.inl (l++[e],k-1,t.fst,t.snd.fst,t.snd.snd.fst,()):ZJc ⊕ (ZHs ⊕ (ZFY ⊕ (Zj×Zo×Zdd)))))
    (Rnd (λv:ZJc=>0<=v.2.1/\v.2.1<=3/\(v.1.length:Int)+v.2.1<=3/\(∀ e∈v.1,ZHo e)/\Src (v.2.2.1,v.2.2.2.1,v.2.2.2.2.1,())) (λv=>v.2.1.toNat) k.toNat Q):=λe t he ht =>
   .ret ⟨⟨by dsimp only;omega,by dsimp only;omega,by dsimp only;simp only[List.length_append,List.length_cons,List.length_nil];omega,ZA6 i3 he,ht⟩,by dsimp only;omega⟩
  have d0:∀ a b:Int,ZHo ((a,b,([]:List Int),([]:List Int),([]:List Int),()):Ze):=λa b=>⟨Nat.zero_le _,Nat.zero_le _,Nat.zero_le _⟩;have d1:∀ a b c:Int,ZHo ((a,b,([]:List Int),([]:List Int),[c],()):Ze):=λa b c=>⟨Nat.zero_le _,Nat.zero_le _,Nat.le_refl _⟩;repeat' first
   | exact nx _ _ (d0 _ _) (by assumption)
   | exact nx _ _ (d1 _ _ _) (by assumption)
   | split
   | refine ZAH.guard (by simp only[List.length_append,List.length_cons,List.length_nil];omega) ?_
   | refine (ZAn (by assumption) _).bind λ_ ⟨_,_⟩=>?_
 ·refine (ZAn i4 2).bind λr ⟨_,h1⟩=>?_
  have hl:l.length<=100:=by omega
  split
  ·refine .ret (hQ _ ⟨hD,⟨hc0,hc1,hcn,hi,ho,hl,i3,?_,?_,ZA6 ZD8 ?_⟩,h1⟩)
   ·show 1<=([_]++[_]).length;simp
   ·show ([_]++[_]).length<=2;simp
   ·show 4<=4;omega
  ·exact .ret (hQ _ ⟨hD,⟨hc0,hc1,hcn,hi,ho,hl,i3,Nat.le_refl _,by show 1<=2;omega,ZD8⟩,h1⟩)
theorem ZJC {D:Zj×Zdd} (hD:ZHZ D.1) {P:List Ya} (hP:P.length<=78) (hP2:(Zg.Xb (Zj.Design D.1)).length<=P.length) {A:List Zc×Zdd} {cs:List Zc} (hc0:1<=cs.length) (hc1:cs.length<=7) (hcn:∀ c∈cs,ZEA c)
  {s:Zdd} (hs:Src s) {Q:ZFY ⊕ (Zj×Zo×Zdd)->Prop} (hQ:∀ r,ZH0 r->Q (.inr r)) :
  ZAH (Zq (λv=>ZCl D P A cs v.1 v.2.1 v.2.2.1 v.2.2.2.1 v.2.2.2.2.1 v.2.2.2.2.2.1) (([]:List Zh),([]:List Zh),Wq ((P.length:Int)-((Zg.Xb (Zj.Design D.1)).length:Int)),s.fst,s.snd.fst,s.snd.snd.fst,())) Q:=by
 rw[Zar (n:=(P.length:Int)-((Zg.Xb (Zj.Design D.1)).length:Int)) (by omega) (by omega)];refine ZAH.loop (λv:ZHs=>0<=v.2.2.1/\v.2.2.1<=(P.length:Int)/\(v.1.length:Int)<=v.2.2.1/\(v.2.1.length:Int)<=v.2.2.1/\Src (v.2.2.2.1,v.2.2.2.2.1,v.2.2.2.2.2.1,())) (λv=>(100-v.2.2.1).toNat)
  ⟨by dsimp only;omega,by dsimp only;omega,by dsimp only[List.length_nil];omega,by dsimp only[List.length_nil];omega,hs⟩ ?_
 rintro ⟨ins,outs,p,c0,c1,c2,⟨⟩⟩ ⟨i0,i1,i2,i3,i4⟩;dsimp only at i0 i1 i2 i3 i4;show ZAH (ZCl D P A cs ins outs p c0 c1 c2) _;unfold ZCl;have en:Wq (p+1)=p+1:=Zar (by omega) (by omega);simp only[en];split
 ·rename_i hp
  have nx:∀ (a b:List Zh) (t:Zdd),(a.length:Int)<=p+1->(b.length:Int)<=p+1->Src t->ZAH (some (.inl (a,b,p+1,t.fst,t.snd.fst,t.snd.snd.fst,()):ZHs ⊕ (ZFY ⊕ (Zj×Zo×Zdd))))
    (Rnd (λv:ZHs=>0<=v.2.2.1/\v.2.2.1<=(P.length:Int)/\(v.1.length:Int)<=v.2.2.1/\(v.2.1.length:Int)<=v.2.2.1/\Src (v.2.2.2.1,v.2.2.2.2.1,v.2.2.2.2.2.1,())) (λv=>(100-v.2.2.1).toNat) (100-p).toNat Q):=λa b t ha hb ht =>
   .ret ⟨⟨by dsimp only;omega,by dsimp only;omega,ha,hb,ht⟩,by dsimp only;omega⟩
  refine (ZAn i4 60).bind λr1 ⟨_,h1⟩=>?_;refine (ZAn h1 _).bind λr2 ⟨_,h2⟩=>?_;refine (ZAn h2 30).bind λr3 ⟨_,h3⟩=>?_;refine .at i0 hp λx _ _=>?_;repeat' first
   | exact nx _ _ _ (by omega) (by omega) (by assumption)
   | exact nx _ _ _ (by first | omega | (simp only[List.length_append,List.length_cons,List.length_nil];omega)) (by first | omega | (simp only[List.length_append,List.length_cons,List.length_nil];omega)) (by assumption)
   | split
   | refine ZAH.guard (by simp only[List.length_append,List.length_cons,List.length_nil];omega) ?_
   | refine (ZAn (by assumption) _).bind λ_ ⟨_,_⟩=>?_
 ·refine (ZAn i4 3).bind λr ⟨⟨a,b⟩,h1⟩=>?_
  exact ZJx hD hc0 hc1 hcn (by omega) (by omega) a (by omega) h1 (λr hr=>hQ r hr)
theorem ZJq {D:Zj×Zdd} (hD:ZHZ D.1) {P:List Ya} (hP:P.length<=78) (hP2:(Zg.Xb (Zj.Design D.1)).length<=P.length) {A:List Zc×Zdd} (hA:1<=A.1.length/\A.1.length<=7) (hAn:∀ c∈A.1,ZEA c)
  {s:Zdd} (hs:Src s) :
  ZAH (Zq (λv=>ZCm D P A v.1 v.2.1 v.2.2.1 v.2.2.2.1 v.2.2.2.2.1) ((0:Int),s.fst,s.snd.fst,s.snd.snd.fst,([]:List Zc),())) ZH0:=by
 refine ZAH.loop (λv:ZFY=>0<=v.1/\v.1<=7/\(v.2.2.2.2.1.length:Int)=v.1/\(∀ c∈v.2.2.2.2.1,ZEA c)/\Src (v.2.1,v.2.2.1,v.2.2.2.1,())) (λv=>(7-v.1).toNat)
  ⟨by dsimp only;omega,by dsimp only;omega,rfl,λx hx=>(by cases hx),hs⟩ ?_
 rintro ⟨p,c0,c1,c2,cs,⟨⟩⟩ ⟨i0,i1,i2,i3,i4⟩;dsimp only at i0 i1 i2 i3 i4;show ZAH (ZCm D P A p c0 c1 c2 cs) _;unfold ZCm;have en:Wq (p+1)=p+1:=Zar (by omega) (by omega);simp only[en];split
 ·rename_i hp
  have hp7:p<7:=by omega
  refine .at i0 hp λx hx _=>?_;have hxn:ZEA x:=hAn x hx;have nx:∀ (c:Zc) (t:Zdd),ZEA c->Src t->ZAH (some (.inl (p+1,t.fst,t.snd.fst,t.snd.snd.fst,([]:List Zc)++cs++[c],()):ZFY ⊕ (Zj×Zo×Zdd)))
    (Rnd (λv:ZFY=>0<=v.1/\v.1<=7/\(v.2.2.2.2.1.length:Int)=v.1/\(∀ c∈v.2.2.2.2.1,ZEA c)/\Src (v.2.1,v.2.2.1,v.2.2.2.1,())) (λv=>(7-v.1).toNat) (7-p).toNat ZH0):=λc t hc ht =>
   .ret ⟨⟨by dsimp only;omega,by dsimp only;omega,by dsimp only;simp only[List.length_append,List.length_cons,List.length_nil];omega,ZA6 (by rw[List.nil_append];exact i3) hc,ht⟩,by dsimp only;omega⟩
  split
  ·refine (ZAn i4 _).bind λr ⟨_,h1⟩=>?_
   refine .guard (by simp only[List.length_append,List.length_cons,List.length_nil];omega) ?_;refine .guard (by simp only[List.length_append,List.length_cons,List.length_nil];omega) ?_;exact nx _ _ hxn h1
  ·refine .guard (by simp only[List.length_append,List.length_cons,List.length_nil];omega) ?_
   refine .guard (by simp only[List.length_append,List.length_cons,List.length_nil];omega) ?_;exact nx _ (c0,c1,c2,()) hxn i4
 ·rename_i hp
  exact ZJC hD hP hP2 (by omega) (by omega) i3 (s:=(c0,c1,c2,())) i4 (λr hr=>hr)
theorem ZHA {s:Zdd} (hs:Src s):ZAH (ZD6 s) ZH0:=by
 unfold ZD6;refine (ZHu hs (most:=4) (by omega) (by omega) _).bind λr0 ⟨b0,h0⟩=>?_;have pl:∀ {d:Zg},ZJ1 d->X3 d=some (Zw d)/\(Zw d).length<=78/\(Zg.Xb d).length<=(Zw d).length:=λ{d} hd=>by
  refine ⟨QA d hd.few,V9 hd.few,?_⟩;unfold Zw;rw[List.length_append];have:∀ (l:List Ye) (m:Nat),(cat Zi7 m l).length=l.length:=by
   intro l;induction l with
   | nil=>intro m;rfl
   | cons x r ih=>intro m;simp only[cat,List.length_append,Zi7,List.length_cons,List.length_nil,ih];omega
  rw[this];omega
 refine (ZAn h0 6).bind λr1 ⟨_,h1⟩=>?_;split
 ·refine (ZHu h1 (most:=5) (by omega) (by omega) _).bind λr2 ⟨b2,h2⟩=>?_
  obtain ⟨e1,e2,e3⟩:=pl b2.des;refine (ZAH.of (a:=Zw (Zj.Design r2.1)) e1 rfl:ZAH _ (λa=>a=Zw (Zj.Design r2.1))).bind λP hP=>?_;subst hP;refine (ZGS h2).bind λr3 ⟨⟨hl,hn⟩,h3⟩=>?_;split
  ·omega
  ·refine (ZAH.of (ZkD r3.1 (ZJO hn) (by omega)) trivial:ZAH _ (λ_=>True)).bind λok _=>?_
   split
   ·exact ZJo b2 e2 e3 hl hn h3
   ·refine (ZAn h3 400).bind λr4 ⟨_,h4⟩=>?_
    exact ZJn b2 e2 e3 h4
 ·obtain ⟨e1,e2,e3⟩:=pl b0.des
  refine (ZAH.of (a:=Zw (Zj.Design r0.1)) e1 rfl:ZAH _ (λa=>a=Zw (Zj.Design r0.1))).bind λP hP=>?_;subst hP;refine (ZGS h1).bind λr3 ⟨⟨hl,hn⟩,h3⟩=>?_;split
  ·omega
  ·refine (ZAH.of (ZkD r3.1 (ZJO hn) (by omega)) trivial:ZAH _ (λ_=>True)).bind λok _=>?_
   split
   ·exact ZJq b0 e2 e3 hl hn h3
   ·refine (ZAn h3 400).bind λr4 ⟨_,h4⟩=>?_
    exact ZJp b0 e2 e3 h4
theorem ZGi {l:List Zh} (h:l.length<=1048576):sm (.sl Yx) l:=smL h (λ_ _=>⟨trivial,trivial,⟨trivial,trivial,trivial⟩,⟨trivial,trivial,trivial⟩,trivial⟩)
theorem ZID {l:List Zc} (h:l.length<=1048576) (h2:∀ c∈l,ZEA c):sm (.sl Xh) l:=smL h (λc hc=>by
 have:=h2 c hc;unfold ZEA at this;exact ⟨smS (by show (Zc.Name c).length<=_;omega),trivial,trivial,trivial,trivial,trivial,trivial,trivial,trivial,trivial,trivial,trivial⟩)
theorem ZIH {l:List Ze} (h:l.length<=1048576) (h2:∀ e∈l,ZHo e):sm (.sl Z4) l:=smL h (λe he=>by
 obtain ⟨a,b,c⟩:=h2 e he;exact ⟨trivial,trivial,smI (by show (Ze.From e).length<=_;omega),smI (by show (Ze.Through e).length<=_;omega),smI (by show (Ze.To e).length<=_;omega),trivial⟩)
theorem ZIF {l:List Zm} (h:l.length<=1048576) (h2:∀ c∈l,(Zm.Name c).length<=4):sm (.sl Y6) l:=smL h (λc hc=>by
 have:=h2 c hc;exact ⟨smS (by show (Zm.Name c).length<=_;omega),trivial,trivial,trivial,trivial,trivial⟩)
theorem ZJ6 {s:Zdd} (hs:Src s):ZAH (ZDM s) (λr=>ZHZ r.1/\(sm Vh r.2.1/\(Zo.Yk r.2.1).length<=7)/\Src r.2.2):=by
 unfold ZDM;refine (ZHA hs).bind λr0 ⟨hb,hx,h0⟩=>?_;obtain ⟨c0,c1,cn,i1,o1,e1,ee,k0,k1,kn⟩:=hx;refine (ZAn h0 24).bind λr1 ⟨_,h1⟩=>?_;have sC:=ZID (by omega) cn;have sI:=ZGi (l:=Zo.Zbb r0.2.1) (by omega);have sO:=ZGi (l:=Zo.Vp r0.2.1) (by omega);have sE:=ZIH (by omega) ee;have sK:=ZIF (by omega) kn;have same:ZAH (some (r0.1,r0.2.1,r1.2)) (λr=>ZHZ r.1/\(sm Vh r.2.1/\(Zo.Yk r.2.1).length<=7)/\Src r.2.2):=.ret ⟨hb,⟨⟨sC,sI,sO,sE,sK,trivial⟩,c1⟩,h1⟩;split
 ·refine (ZAn h1 2).bind λr2 ⟨⟨a,b⟩,h2⟩=>?_
  refine .at a (by simp only[List.length_cons,List.length_nil];omega) λx _ _=>?_;refine .at (by omega) (by show (0:Int)<((Zo.Yk r0.2.1).length:Int);omega) λc hc _=>?_;refine .ret ⟨hb,⟨⟨ZID ?_ (ZHE cn (cn c hc)),sI,sO,sE,sK,trivial⟩,?_⟩,h2⟩
  ·show (List.set (Zo.Yk r0.2.1) _ _).length<=_
   rw[List.length_set];omega
  ·show (List.set (Zo.Yk r0.2.1) _ _).length<=7
   rw[List.length_set];exact c1
 split
 ·split
  ·rename_i hl
   refine (ZAn h1 2).bind λr2 ⟨⟨a,b⟩,h2⟩=>?_;refine .at a (by simp only[List.length_cons,List.length_nil];omega) λx _ _=>?_;refine .at (by omega) hl λc hc _=>?_;refine .ret ⟨hb,⟨⟨sC,ZGi ?_,sO,sE,sK,trivial⟩,c1⟩,h2⟩;show (List.set (Zo.Zbb r0.2.1) _ _).length<=_;rw[List.length_set];omega
  ·exact same
 split
 ·split
  ·rename_i hl
   refine .at (by omega) hl λc hc _=>?_;refine .ret ⟨hb,⟨⟨sC,ZGi ?_,sO,sE,sK,trivial⟩,c1⟩,h1⟩;show (List.set (Zo.Zbb r0.2.1) _ _).length<=_;rw[List.length_set];omega
  ·exact same
 split
 ·split
  ·rename_i hl
   refine .at (by omega) hl λc hc _=>?_;refine .ret ⟨hb,⟨⟨sC,sI,ZGi ?_,sE,sK,trivial⟩,c1⟩,h1⟩;show (List.set (Zo.Vp r0.2.1) _ _).length<=_;rw[List.length_set];omega
  ·exact same
 split
 ·refine .at (by omega) (by show (0:Int)<((Zo.X5 r0.2.1).length:Int);omega) λc hc _=>?_
  have hl:(Zo.X5 r0.2.1++[c]).length<=1048576:=by rw[List.length_append,List.length_singleton];omega
  refine .guard (by show ((Zo.X5 r0.2.1).length+1)*48<=140737488355328;omega) (.ret ⟨hb,⟨⟨sC,sI,sO,sE,ZIF hl (ZA6 kn (kn c hc)),trivial⟩,c1⟩,h1⟩)
 split
 ·have hl:(Zo.Exceptions r0.2.1++[((0:Int),(0:Int),([]:List Int),([]:List Int),([]:List Int),())]).length<=1048576:=by rw[List.length_append,List.length_singleton];omega
  refine .guard (by show ((Zo.Exceptions r0.2.1).length+1)*88<=140737488355328;omega) (.ret ⟨hb,⟨⟨sC,sI,sO,ZIH hl (ZA6 ee ⟨Nat.zero_le _,Nat.zero_le _,Nat.zero_le _⟩),sK,trivial⟩,c1⟩,h1⟩)
 split
 ·split
  ·rename_i hl
   refine .at (by omega) hl λc hc _=>?_;have hl2:(Zo.Zbb r0.2.1++[c]).length<=1048576:=by rw[List.length_append,List.length_singleton];omega
   refine .guard (by show ((Zo.Zbb r0.2.1).length+1)*48<=140737488355328;omega) (.ret ⟨hb,⟨⟨sC,ZGi hl2,sO,sE,sK,trivial⟩,c1⟩,h1⟩)
  ·exact same
 split
 ·exact .ret ⟨hb,⟨⟨smL (by simp) (by simp),smL (by simp) (by simp),smL (by simp) (by simp),smL (by simp) (by simp),smL (by simp) (by simp),trivial⟩,by show 0<=7;omega⟩,h1⟩
 ·exact same
theorem ZFd {lib:Zt} {d:Zg} {ws:List Zx} {nd:Nat->Int} {k:Nat} {p:Pl} (hp:(Zw d)[k]?=some p) (h2:p.2.2.2.1=false) (h0:0<=p.2.2.1) (h1:p.2.2.1<(ws.length:Int)) :
  ZAz ((lib,d,ZBt (Zw d) ws nd,()):Zj) k=nd k:=by
 have hw:=List.getElem?_eq_getElem (show p.2.2.1.toNat<ws.length by omega);generalize ws[p.2.2.1.toNat]=w at hw;have hn:=ZEM hp rfl h2;have e:(ZBt (Zw d) ws nd)[p.2.2.1.toNat]?=some (ZB6 w ((cat (Zl1 p.2.2.1) 0 (Zw d)).map (λk=>nd k.toNat))):=by
  rw[ZAT,hw,Int.toNat_of_nonneg h0];rfl
 have e1:(Zw (Zj.Design ((lib,d,ZBt (Zw d) ws nd,()):Zj)))[k]?=some p:=hp;have e2:(Zj.Qg ((lib,d,ZBt (Zw d) ws nd,()):Zj))[p.2.2.1.toNat]?=some (ZB6 w ((cat (Zl1 p.2.2.1) 0 (Zw d)).map (λk=>nd k.toNat))):=e;have e3:(((cat (Zl1 p.2.2.1) 0 (Zw d)).map (λk=>nd k.toNat))[nth (Zw d) p.2.2.1 k]?).getD 0=nd k:=by
  grind
 unfold ZAz;simp only[e1,h2,e2];exact e3
theorem ZHn (pl pl':List Pl) (ws:List Zx) (nd nd':Nat->Int):ZBt pl (ZBt pl' ws nd') nd=ZBt pl ws nd:=by
 apply List.ext_getElem?;intro v;rw[ZAT,ZAT,ZAT];cases ws[v]? with
 | none=>rfl
 | some w=>rfl
theorem ZJb (pl:List Pl) (ws:List Zx) (nd:Nat->Int) (m:Nat):(ZBt pl ws nd).take m=ZBt pl (ws.take m) nd:=by
 apply List.ext_getElem?;intro v;rw[ZAT,List.getElem?_take,List.getElem?_take];split
 ·exact ZAT ..
 ·rfl
theorem ZHm {b:Zj} (h:ZdN b):ZBt (Zw (Zj.Design b)) (Zj.Qg b) (ZAz b)=Zj.Qg b:=by
 have hwn:=h.ok.2.1;apply List.ext_getElem?;intro v;rw[ZAT];cases hw:(Zj.Qg b)[v]? with
 | none=>rfl
 | some w =>
  have hv:=(List.getElem?_eq_some_iff.1 hw).1;obtain ⟨w',hw1,hw2,hw3⟩:=ZDO h (n:=(v:Int)) ⟨by omega,by omega⟩;rw[Int.toNat_natCast,hw] at hw1;injection hw1 with hw1
  subst hw1;have hs:=hw3.2.2.2.1;have:((cat (Zl1 (v:Int)) 0 (Zw (Zj.Design b))).map (λk=>ZAz b k.toNat))=Zx.Zjo w:=by
   apply List.ext_getElem?;intro i;rw[List.getElem?_map];cases hx:(cat (Zl1 (v:Int)) 0 (Zw (Zj.Design b)))[i]? with
   | none =>
    have h1:=List.getElem?_eq_none_iff.1 hx;have h2:(Zhl (Zj.Design b) (v:Int)).length=(cat (Zl1 (v:Int)) 0 (Zw (Zj.Design b))).length:=rfl;grind
   | some x =>
    obtain ⟨k,p,hp,ex,hn,h2,hnth⟩:=ZFU hx;obtain ⟨w',a1,a2,a3,_⟩:=ZHQ h hp h2;rw[hn,Int.toNat_natCast,hw] at a2;injection a2 with a2
    subst a2;rw[hn,hnth,Zu] at a3;grind
  rw[Option.map_some,this];rfl
theorem ZFL {d:Zg} {a b n:Int} (h:¬a<0) {x:Zl} (hx:(Zg.Instances d)[a.toNat]?=some x):ZAE d a b n=((Zg.Instances d).set a.toNat (ZCt x b.toNat n),Zg.X7 d,Zg.Xb d,()):=by
 unfold ZAE;rw[if_neg h,hx]
theorem ZFi {d:Zg} {a b n:Int} (h:a<0) {q:Ye} (hq:(Zg.Xb d)[b.toNat]?=some q):ZAE d a b n=(Zg.Instances d,Zg.X7 d,(Zg.Xb d).set b.toNat (setPort q n),()):=by
 unfold ZAE;rw[if_pos h,hq]
theorem ZKC {α:Type} {l:List α} {i:Nat} {x y:α} (hx:l[i]?=some x):(l.set i y)[i]?=some y:=by
 grind
theorem ZF2 {d:Zg} {k:Nat} {p:Pl} (hp:(Zw d)[k]?=some p) (m n:Int):ZAE (ZAE d p.1 p.2.1 m) p.1 p.2.1 n=ZAE d p.1 p.2.1 n:=by
 rcases ZBg hp with ⟨i,j,x,nn,hx,hn,e,rfl⟩ | ⟨j,q,hq,e,rfl⟩
 ·have h:¬((ZCC i x j nn).1<0):=by simp only[ZCC];omega
  have hx':(Zg.Instances d)[(ZCC i x j nn).1.toNat]?=some x:=by simp only[ZCC,Int.toNat_natCast];exact hx
  rw[ZFL (n:=m) h hx',ZFL (n:=n) h hx'];rw[ZFL h (x:=ZCt x (ZCC i x j nn).2.1.toNat m) (ZKC hx')];show (List.set (List.set (Zg.Instances d) _ _) _ _,_)=_;rw[List.set_set];have:ZCt (ZCt x (ZCC i x j nn).2.1.toNat m) (ZCC i x j nn).2.1.toNat n=ZCt x (ZCC i x j nn).2.1.toNat n:=by
   show (_,_,List.set (List.set _ _ _) _ _,_)=_;rw[List.set_set];rfl
  rw[this]
 ·have h:(((-1:Int),(j:Int),Ye.Net q,decide (Ye.Dir q=1),()):Pl).1<0:=by grind
  have hq':(Zg.Xb d)[(j:Int).toNat]?=some q:=by grind
  show ZAE (ZAE d (-1) (j:Int) m) (-1) (j:Int) n=ZAE d (-1) (j:Int) n;rw[ZFi (n:=m) (by omega) hq',ZFi (n:=n) (by omega) hq'];rw[ZFi (by omega) (q:=setPort q m) (ZKC hq')];show (_,_,List.set (List.set _ _ _) _ _,_)=_;rw[List.set_set];rfl
theorem ZFM {d:Zg} {k:Nat} {p:Pl} (hp:(Zw d)[k]?=some p):ZAE d p.1 p.2.1 p.2.2.1=d:=by
 rcases ZBg hp with ⟨i,j,x,nn,hx,hn,e,rfl⟩ | ⟨j,q,hq,e,rfl⟩
 ·show ZAE d (i:Int) (j:Int) nn=d
  rw[ZFL (by omega) (x:=x) (by grind)];have:ZCt x (j:Int).toNat nn=x:=by
   unfold ZCt;rw[Int.toNat_natCast,ZkQ hn]
  rw[this,Int.toNat_natCast,ZkQ hx]
 ·show ZAE d (-1) (j:Int) (Ye.Net q)=d
  rw[ZFi (by omega) (q:=q) (by grind),Int.toNat_natCast,show setPort q (Ye.Net q)=q from rfl,ZkQ hq]
theorem ZGU (d:Zg) (x:Zl) (s:List UInt8):ZAy (ZAJ d x s)=d:=by
 unfold ZAy ZAJ;show (List.take _ (Zg.Instances d++[x]),List.take _ (Zg.X7 d++[s]),Zg.Xb d,())=d;rw[show (Zg.Instances ((Zg.Instances d++[x],Zg.X7 d++[s],Zg.Xb d,()):Zg)).length-1=(Zg.Instances d).length from by grind,
  show (Zg.X7 ((Zg.Instances d++[x],Zg.X7 d++[s],Zg.Xb d,()):Zg)).length-1=(Zg.X7 d).length from by grind,
  List.take_left,List.take_left]
theorem ZKl {pl:List Pl} {net:Int} {k:Nat} {p:Pl} (hp:pl[k]?=some p) (h1:p.2.2.1=net) (h2:p.2.2.2.1=false)
  (hu:∀ (k':Nat) (p':Pl),pl[k']?=some p'->p'.2.2.1=net->p'.2.2.2.1=false->k'=k):cat (Zl1 net) 0 pl=[(k:Int)]:=by
 have h3:=ZEM hp h1 h2;have all:∀ i x,(cat (Zl1 net) 0 pl)[i]?=some x->i=nth pl net k/\x=(k:Int):=by
  intro i x hx;obtain ⟨k',p',a,b,c,d,e⟩:=ZFU hx;grind
 have hl:=(List.getElem?_eq_some_iff.1 h3).1;generalize cat (Zl1 net) 0 pl=l at h3 all hl
 match l,hl,all with
 | [v],_,all=>rw[(all 0 v rfl).2]
 | v::w::r,_,all =>
  have a0:=(all 0 v rfl).1;have a1:=(all 1 w rfl).1;omega
def ZKx (a b:Zk):Prop:=Zk.Kind a=Zk.Kind b/\(Zk.Yz a).length=(Zk.Yz b).length/\ZdM (Zk.Yz a) (λk x=>∀ y,(Zk.Yz b)[k]?=some y->(Yv.Clock x == Yv.Clock y)=true)
theorem ZH4 {a b:Zk} (ha:sm V6 a):ZA2 a b=some true<->ZKx a b:=by
 have s1:(Zk.Yz a).length<=1048576:=by have:=(ZtC ha).pins.1;omega
 unfold ZA2 ZKx;by_cases k:Zk.Kind a=Zk.Kind b
 ·rw[if_pos k]
  by_cases hl:((Zk.Yz a).length:Int)=((Zk.Yz b).length:Int)
  ·rw[if_pos hl,Qe (l:=Zk.Yz a) (show Len _ by unfold Len;omega) (λk x=>∀ y,(Zk.Yz b)[k]?=some y->(Yv.Clock x == Yv.Clock y)=true) (bad:=false) (good:=true)
    (step:=λv=>ZA4 a b v.1)
    (λk x hx hk _=>by
     have hy:(Zk.Yz b)[k]?=some (Zk.Yz b)[k]:=List.getElem?_eq_getElem (by omega);simp only[ZA4,show (k:Int)<((Zk.Yz a).length:Int) from by omega,if_true,Zu,hx,hy,Bq,Option.some.injEq,forall_eq'];grind)
    (λ_=>by simp only[ZA4,Int.lt_irrefl,if_false])]
   have hl':(Zk.Yz a).length=(Zk.Yz b).length:=by omega
   constructor
   ·intro h
    injection h with h
    refine ⟨k,hl',?_⟩;by_cases q:ZdM (Zk.Yz a) (λk x=>∀ y,(Zk.Yz b)[k]?=some y->(Yv.Clock x == Yv.Clock y)=true)
    ·exact q
    ·rw[YC q] at h;cases h
   ·rintro ⟨_,_,h⟩
    rw[YS h]
  grind
 grind
theorem ZI1 {a b:Zk} (ha:sm V6 a) (hb:sm V6 b) (h:ZA2 a b=some true):ZA2 b a=some true:=by
 obtain ⟨h1,h2,h3⟩:=(ZH4 ha).1 h;refine (ZH4 hb).2 ⟨h1.symm,h2.symm,λk y hy x hx=>?_⟩;have:=h3 k x hx y hy;grind
theorem ZJl {b:Zj} (h:ZdN b) (hL:ZEI b):ZDv b=some true:=by
 obtain ⟨x,c,w,m,hn,hx,hc,hk1,hk2,hl2,hm,hl,hne,hnm,hw,hs1,hs2,hp1,hc0⟩:=hL;have hD:=h.ok.1;have hf:=hD.few;have h14:=hf.insts;have h30:=hD.2.1.2.1;have hwn:=h.ok.2.1;obtain ⟨⟨c0,c1⟩,_,hnet⟩:=hD.2.2.1 x (List.mem_of_getElem? hx);have hx2:atI (Zg.Instances (Zj.Design b)) (((Zg.Instances (Zj.Design b)).length:Int)-1)=some x:=Zbc (by omega) (by simp_all);have hc2:atI (Zt.Cells (Zj.Library b)) (Zl.Cell x)=some c:=Zbc c0 hc;have eW:Wq (((Zj.Qg b).length:Int)-1)=((Zg.X7 (Zj.Design b)).length:Int)-1:=by rw[Zar (by omega) (by omega)];omega
 have hbuf:ZBn c=some true:=by
  unfold ZBn;grind
 have hs2':((Zhl (Zj.Design b) (((Zg.X7 (Zj.Design b)).length:Int)-1)).length:Int)=1:=by omega
 have hp1':((Zx.Parent w).length:Int)=1:=by omega
 unfold ZDv;rw[Zar (n:=((Zg.Instances (Zj.Design b)).length:Int)-1) (by omega) (by omega),if_neg (by omega),hx2];simp only[Bq,hc2,hbuf,if_true,eW,hl,hnm,hm,hw,if_neg hne,ZkH _ _ hf,hs2',ZED,hp1',hc0,decide_true]
theorem ZKo {b:Zj} {e:ZgL} (h:ZCe b e) (he:sm Zug e):ZC6 b e=some true:=by
 have hB:=h.blk;have hD:=hB.ok.1;have hf:=hD.few;have hsd:=(ZnM hB.sm).2.1;obtain ⟨he1,he2⟩:=ZEN he;unfold ZC6;rw[QA _ hf,Bq];by_cases k1:ZgL.Kind e=1
 ·obtain ⟨p,x,c,c2,hp,h0,hd,hx,hc,hc2,ha⟩:=h.poss.1 k1
  rw[if_pos k1,hp.at];grind
 rw[if_neg k1];by_cases k2:ZgL.Kind e=2
 ·obtain ⟨p,c,hp,hd,hc,hk,hpins,hname,hni,hnn⟩:=h.poss.2.1 k2
  have hlN:(ZgL.Name e).length<=4611686018427387904:=by have:((ZgL.Name e).length:Int)<=1048576:=he1;omega
  have hbuf:ZBn c=some true:=by
   unfold ZBn
   simp_all
  rw[if_pos k2,hp.at];simp only[Bq,show Ya.drives p=p.2.2.2.1 from rfl,hd,hc,hbuf,JJ _ hlN,hname,(ZFb _ (ZgL.Name e) hsd).2,(ZFF _ (ZgL.Name e) hsd).2,if_true,if_pos hni,decide_eq_true hnn,Bool.false_eq_true,if_false]
 rw[if_neg k2];by_cases k3:ZgL.Kind e=3
 ·rw[if_pos k3,ZJl hB (h.poss.2.2.1 k3)]
  rfl
 rw[if_neg k3];by_cases k4:ZgL.Kind e=4
 ·obtain ⟨p,hp,hd,hne⟩:=h.poss.2.2.2.1 k4
  rw[if_pos k4,hp.at];grind
 rw[if_neg k4];have k5:ZgL.Kind e=5:=by have:=h.blank;unfold Blank at this;omega
 obtain ⟨w,hw1,hw2,hw3⟩:=ZDO hB (h.range.2.2 k5);rw[ZkH _ _ hf];simp only[Bq,ZmG _ _ he2];rw[Yf (h.poss.2.2.2.2 k5)]
theorem ZKb {b:Zj} {e:ZgL} (h:ZCe b e) (he:sm Zug e):ZBx e b=some 0/\ZA0 b e=some 0:=by
 have hB:=h.blk;have hwn:=hB.ok.2.1;have h2:ZA0 b e=some 0:=by
  unfold ZA0;rw[Zgs b hB.sm,Bq,if_pos (Yf hB.ok),ZE1 e he,Bq,if_pos (Yf h.blank),ZE2 hB e he,Bq,if_pos (Yf h.range),ZKo h he,Bq,if_pos rfl];by_cases k2:ZgL.Kind e=2
  ·have:=h.lim k2
   grind
  ·rw[if_neg k2]
 obtain ⟨c,h3,h4,_⟩:=ZDY hB e he;grind
theorem ZJX {b:Zj} (h:ZdN b) {k:Nat} {p:Pl} (hp:(Zw (Zj.Design b))[k]?=some p) (n v:Int) :
  moved (moved b k p n v) k (p.1,p.2.1,n,p.2.2.2.1,()) p.2.2.1 (ZAz b k)=b:=by
 have hwn:=h.ok.2.1;have e1:mvD (moved b k p n v) (p.1,p.2.1,n,p.2.2.2.1,()) p.2.2.1=Zj.Design b:=(ZF2 hp n p.2.2.1).trans (ZFM hp);have e2:ZBt (Zw (Zj.Design b)) (Zj.Qg b) (mvN (moved b k p n v) k (ZAz b k))=Zj.Qg b:=by
  refine (ZFI (nd':=ZAz b) λj q hq hd=>?_).trans (ZHm h);unfold mvN;by_cases c:j=k
  ·rw[if_pos c,c]
  ·rw[if_neg c]
   have hq2:(Zw (mvD b p n))[j]?=some q:=by
    show (Zw (ZAE _ _ _ _))[j]?=_;rw[ZAD hp,List.getElem?_set_ne (Ne.symm c)];exact hq
   have hqn:=Zol h.ok.1 (List.mem_of_getElem? hq);have:=ZFd (lib:=Zj.Library b) (ws:=Zj.Qg b) (nd:=mvN b k v) hq2 hd hqn.1 (by have:=hqn.2;omega);refine this.trans ?_;unfold mvN;rw[if_neg c]
 show ((Zj.Library b,mvD (moved b k p n v) (p.1,p.2.1,n,p.2.2.2.1,()) p.2.2.1,ZBt (Zw (mvD (moved b k p n v) (p.1,p.2.1,n,p.2.2.2.1,()) p.2.2.1)) (ZBt (Zw (mvD b p n)) (Zj.Qg b) (mvN b k v)) (mvN (moved b k p n v) k (ZAz b k)),()):Zj)=b;rw[e1,ZHn,e2]
theorem ZH8 {b:Zj} (h:ZdN b) {e:ZgL} {k:Nat} {p:Pl} (hp:(Zw (Zj.Design b))[k]?=some p) :
  Zw (ZDS b e p)=(Zw (ZAJ (Zj.Design b) (ZEk b e p) (ZgL.Name e))).set (ZFv b k) (p.1,p.2.1,((Zg.X7 (Zj.Design b)).length:Int),p.2.2.2.1,()):=by
 rw[ZDX hp];exact ZAD (ZDr h hp) _
theorem ZJk {b:Zj} {e:ZgL} {q:Pl} {j:Nat} {r:Pl} (hj:(Zw (ZAJ (Zj.Design b) (ZEk b e q) (ZgL.Name e)))[j]?=some r) :
  (j<ZAv (Zj.Design b)/\(Zw (Zj.Design b))[j]?=some r)\/(j=ZAv (Zj.Design b)/\r.2.2.1=q.2.2.1)\/(j=ZAv (Zj.Design b)+1/\r.2.2.2.1=true)\/(ZAv (Zj.Design b)+2<=j/\(Zw (Zj.Design b))[j-2]?=some r):=by
 by_cases c1:j<ZAv (Zj.Design b)
 ·rw[ZFq c1] at hj
  grind
 by_cases c2:j=ZAv (Zj.Design b)
 ·have:=add_mid (d:=Zj.Design b) (x:=ZEk b e q) (s:=ZgL.Name e) (j:=0) (by show 0<2;omega)
  rw[Nat.add_zero,<-c2,hj] at this;have h3:=ZC0 (i:=(Zg.Instances (Zj.Design b)).length) (x:=ZEk b e q) (j:=0) (n:=q.2.2.1) rfl;rw[<-this] at h3;injection h3 with h3
  exact .inr (.inl ⟨c2,by rw[h3];rfl⟩)
 by_cases c3:j=ZAv (Zj.Design b)+1
 ·have:=add_mid (d:=Zj.Design b) (x:=ZEk b e q) (s:=ZgL.Name e) (j:=1) (by show 1<2;omega)
  rw[<-c3,hj] at this;have h3:=ZC0 (i:=(Zg.Instances (Zj.Design b)).length) (x:=ZEk b e q) (j:=1) (n:=((Zg.X7 (Zj.Design b)).length:Int)) rfl;rw[<-this] at h3;injection h3 with h3
  refine .inr (.inr (.inl ⟨c3,?_⟩));rw[h3];show decide ((1:Int)=Wq ((2:Int)-1))=true;rw[Zar (by omega) (by omega)];rfl
 ·have:=ZE4 (d:=Zj.Design b) (x:=ZEk b e q) (s:=ZgL.Name e) (k:=j-2) (by omega)
  rw[show (Zl.X7 (ZEk b e q)).length=2 from rfl,show j-2+2=j by omega,hj] at this;grind
theorem ZGP (b:Zj) (e:ZgL) (p:Pl):(Zg.X7 (ZDS b e p)).length=(Zg.X7 (Zj.Design b)).length+1:=by
 show (Zg.X7 (ZAE (Zj.Design b) p.1 p.2.1 _)++[ZgL.Name e]).length=_;rw[List.length_append,ZAO];rfl
theorem ZIM {b:Zj} {e:ZgL} (h:ZCe b e) (k2:ZgL.Kind e=2) {p:Pl} (hp:ZCd b e p) (hd:p.2.2.2.1=false) :
  ZEI (ZBk b e (ZgL.Place e).toNat p)/\Zhl (ZDS b e p) ((Zg.X7 (Zj.Design b)).length:Int)=[((ZFv b (ZgL.Place e).toNat:Nat):Int)]/\
  (Zw (ZDS b e p))[ZFv b (ZgL.Place e).toNat]?=some (p.1,p.2.1,((Zg.X7 (Zj.Design b)).length:Int),p.2.2.2.1,()):=by
 have hB:=h.blk;have hwn:=hB.ok.2.1;obtain ⟨p',c,hp',_,hc,hk,hpins,hname,hni,hnn⟩:=h.poss.2.1 k2;obtain ⟨_,hcr⟩:=h.range.1 (.inr k2);have hc2:(Zt.Cells (Zj.Library b))[(ZgL.Cell e).toNat]?=some c:=by
  have:=hc;unfold atI at this;grind
 have hpk:=ZDr (e:=e) (q:=p) hB hp.2;have hpl:=ZH8 (e:=e) hB hp.2;have hpk2:(Zw (ZDS b e p))[ZFv b (ZgL.Place e).toNat]?=some (p.1,p.2.1,((Zg.X7 (Zj.Design b)).length:Int),p.2.2.2.1,()):=by grind
 have hold:∀ (j:Nat) (q:Pl),(Zw (Zj.Design b))[j]?=some q->q.2.2.1≠((Zg.X7 (Zj.Design b)).length:Int):=λj q hq=>by
  have:=(Zol hB.ok.1 (List.mem_of_getElem? hq)).2;omega
 have hsk:Zhl (ZDS b e p) ((Zg.X7 (Zj.Design b)).length:Int)=[((ZFv b (ZgL.Place e).toNat:Nat):Int)]:=by
  refine ZKl hpk2 rfl hd (λj q hq hn h2=>?_);by_cases c:j=ZFv b (ZgL.Place e).toNat
  ·exact c
  exfalso;rw[hpl,List.getElem?_set_ne (Ne.symm c)] at hq;rcases ZJk hq with ⟨_,a⟩ | ⟨_,a⟩ | ⟨_,a⟩ | ⟨_,a⟩
  ·exact hold _ _ a hn
  ·exact hold _ _ hp.2 (a.symm.trans hn)
  all_goals grind
 have hNl:=ZGP b e p;have hNe:((Zg.X7 (ZDS b e p)).length:Int)-1=((Zg.X7 (Zj.Design b)).length:Int):=by omega
 refine ⟨⟨ZEk b e p,c,ZB6 ZH7 ((cat (Zl1 (((Zg.X7 (Zj.Design b)).length:Nat):Int)) 0 (Zw (ZDS b e p))).map λk=>ZIr b (ZgL.Place e).toNat k.toNat),p.2.2.1,?_,?_,hc2,hk,hpins,rfl,rfl,?_,?_,?_,?_,?_,?_,rfl,rfl⟩,hsk,hpk2⟩
 ·show 0<(Zg.Instances (ZAE (Zj.Design b) p.1 p.2.1 _)++[_]).length
  grind
 ·show (Zg.Instances (ZAE (Zj.Design b) p.1 p.2.1 _)++[ZEk b e p])[(Zg.Instances (ZAE (Zj.Design b) p.1 p.2.1 _)++[ZEk b e p]).length-1]?=some _
  simp_all
 ·show some (((Zg.X7 (Zj.Design b)).length:Nat):Int)=some (((Zg.X7 (ZDS b e p)).length:Int)-1)
  rw[hNe]
 ·show p.2.2.1≠((Zg.X7 (ZDS b e p)).length:Int)-1
  rw[hNe];exact hold _ _ hp.2
 ·show atI (Zg.X7 (ZAE (Zj.Design b) p.1 p.2.1 _)++[ZgL.Name e]) (((Zg.X7 (ZDS b e p)).length:Int)-1)=some (ZgL.Name e)
  rw[hNe,Zu,ZAO];simp
 ·show atI (ZBt (Zw (ZDS b e p)) (Zj.Qg b++[ZH7]) _) (((Zg.X7 (ZDS b e p)).length:Int)-1)=some _
  rw[hNe,Zu,ZAT]
  simp_all
 ·show (List.map _ _).length=1
  rw[List.length_map];exact congrArg List.length hsk
 ·show (Zhl (ZDS b e p) (((Zg.X7 (ZDS b e p)).length:Int)-1)).length=1
  rw[hNe,hsk];rfl
theorem ZJG (d:Zg) (x:Zl) (s:List UInt8):ZAv (ZAJ d x s)=ZAv d+(Zl.X7 x).length:=by
 show (cat Zhx 0 (Zg.Instances d++[x])).length=_;rw[ZmP,List.length_append];simp only[cat,List.append_nil,ZAY]
theorem ZIK {b:Zj} {e:ZgL} (h:ZCe b e) (k2:ZgL.Kind e=2) (hs:sm .str (ZgL.Name e)) {p:Pl} (hp:ZCd b e p) (hd:p.2.2.2.1=false) :
  ZAP (ZBk b e (ZgL.Place e).toNat p) (ZFv b (ZgL.Place e).toNat) (p.1,p.2.1,((Zg.X7 (Zj.Design b)).length:Int),p.2.2.2.1,()) p.2.2.1=b:=by
 have hB:=h.blk;have hwn:=hB.ok.2.1;have hR:=ZEo h k2 hs hp;have hpl:=ZH8 (e:=e) hB hp.2;obtain ⟨hL,hsk,hpk⟩:=ZIM h k2 hp hd;generalize ek:(ZgL.Place e).toNat=k at *;have hpk0:(Zw (Zj.Design b))[k]?=some p:=by rw[<-ek];exact hp.2
 have e1:unD (ZBk b e k p) (p.1,p.2.1,((Zg.X7 (Zj.Design b)).length:Int),p.2.2.2.1,()) p.2.2.1=Zj.Design b:=by
  have:ZAE (ZDS b e p) p.1 p.2.1 p.2.2.1=ZAJ (Zj.Design b) (ZEk b e p) (ZgL.Name e):=by
   show ZAE (ZAJ (ZAE (Zj.Design b) p.1 p.2.1 _) (ZEk b e p) (ZgL.Name e)) p.1 p.2.1 p.2.2.1=_;rw[ZHI (by rw[ZAA];exact ZGM hpk0 (.inr trivial)),ZF2 hpk0,ZFM hpk0]
  show ZAy (ZAE (ZDS b e p) p.1 p.2.1 p.2.2.1)=_;rw[this,ZGU]
 have e2:(Zj.Qg (ZBk b e k p)).take ((Zj.Qg (ZBk b e k p)).length-1)=ZBt (Zw (ZDS b e p)) (Zj.Qg b) (ZIr b k):=by
  show (ZBt (Zw (ZDS b e p)) (Zj.Qg b++[ZH7]) (ZIr b k)).take ((ZBt (Zw (ZDS b e p)) (Zj.Qg b++[ZH7]) (ZIr b k)).length-1)=_;rw[ZD9,ZJb,List.length_append,List.length_singleton,Nat.add_sub_cancel,List.take_left]
 have hI:ZAv (Zj.Design (ZBk b e k p))-2=ZAv (Zj.Design b):=by
  have h1:=ZJG (ZAE (Zj.Design b) p.1 p.2.1 ((Zg.X7 (Zj.Design b)).length:Int)) (ZEk b e p) (ZgL.Name e);rw[ZDQ hpk0] at h1;show ZAv (ZDS b e p)-2=_;have h2:ZAv (ZDS b e p)=ZAv (Zj.Design b)+2:=h1;omega
 have hnode:∀ (i:Nat) (q:Pl),(Zw (ZDS b e p))[i]?=some q->q.2.2.2.1=false->ZAz (ZBk b e k p) i=ZIr b k i:=λi q hq h2=>by
  have hqn:=Zol hR.ok.1 (x:=q) (List.mem_of_getElem? hq);have h3:q.2.2.1<=((Zg.X7 (ZDS b e p)).length:Int)-1:=hqn.2;have h4:=ZGP b e p;exact ZFd (lib:=Zj.Library b) (ws:=Zj.Qg b++[ZH7]) (nd:=ZIr b k) hq h2 hqn.1 (by grind)
 have hK:ZFv b k=if k<ZAv (Zj.Design b) then k else k+2:=rfl;have hold:∀ (i:Nat) (q:Pl),(Zw (ZAJ (Zj.Design b) (ZEk b e p) (ZgL.Name e)))[i]?=some q->i≠ZFv b k->(Zw (ZDS b e p))[i]?=some q:=λi q hq hne=>by
  grind
 have hpin:ZAz (ZBk b e k p) (ZAv (Zj.Design b))=ZAz b k:=by
  have hne:ZAv (Zj.Design b)≠ZFv b k:=by grind
  have h3:=ZC0 (i:=(Zg.Instances (Zj.Design b)).length) (x:=ZEk b e p) (j:=0) (n:=p.2.2.1) rfl;have h4:=add_mid (d:=Zj.Design b) (x:=ZEk b e p) (s:=ZgL.Name e) (j:=0) (by show 0<2;omega);rw[h3,Nat.add_zero] at h4;rw[hnode _ _ (hold _ _ h4 hne) (by
   show decide ((0:Int)=Wq ((2:Int)-1))=false;rw[Zar (by omega) (by omega)];rfl)]
  unfold ZIr ZHa;grind
 have e3:ZBt (Zw (Zj.Design b)) (Zj.Qg b) (unN (ZBk b e k p) (ZFv b k))=Zj.Qg b:=by
  refine (ZFI (nd':=ZAz b) λj q hq h2=>?_).trans (ZHm hB);unfold unN ZHb mvN;rw[hI,hpin];by_cases c1:j<ZAv (Zj.Design b)
  ·rw[if_pos c1]
   by_cases c2:j=ZFv b k
   ·grind
   ·rw[if_neg c2,hnode _ _ (hold j q (by rw[ZFq c1];exact hq) c2) h2]
    unfold ZIr ZHa;grind
  ·rw[if_neg c1]
   by_cases c2:j+2=ZFv b k
   ·rw[if_pos c2]
    rw[hK] at c2;split at c2;all_goals grind
   ·have h5:=ZE4 (d:=Zj.Design b) (x:=ZEk b e p) (s:=ZgL.Name e) (k:=j) (by omega)
    rw[show (Zl.X7 (ZEk b e p)).length=2 from rfl,hq] at h5;rw[if_neg c2,hnode _ _ (hold (j+2) q h5 c2) h2];unfold ZIr ZHa;rw[if_neg c2,if_neg (by omega),if_neg (by omega),if_neg (by omega),Nat.add_sub_cancel]
 show ((Zj.Library b,unD (ZBk b e k p) _ _,ZBt (Zw (unD (ZBk b e k p) _ _)) ((Zj.Qg (ZBk b e k p)).take ((Zj.Qg (ZBk b e k p)).length-1)) (unN (ZBk b e k p) (ZFv b k)),()):Zj)=b;rw[e1,e2,ZHn,e3]
theorem ZJr {d:Zg} {x:Zl} {s:List UInt8} (hn:0<(Zg.Instances d).length) (hx:(Zg.Instances d)[(Zg.Instances d).length-1]?=some x) (hs:(Zg.X7 d)[(Zg.X7 d).length-1]?=some s):ZAJ (ZAy d) x s=d:=by
 have h1:=ZGT hn hx;have h0:=(List.getElem?_eq_some_iff.1 hs).1;have h2:(Zg.X7 d).take ((Zg.X7 d).length-1)++[s]=Zg.X7 d:=by
  have:=Yy hs;grind
 show (Zg.Instances (ZAy d)++[x],(Zg.X7 d).take ((Zg.X7 d).length-1)++[s],Zg.Xb d,())=d;rw[h2,<-h1]
theorem ZKt {l:List Int} {a b:Int} (h:l.length=2) (h0:atI l 0=some a) (h1:atI l 1=some b):l=[a,b]:=by
 match l,h with
 | [u,v],_ =>
  injection (show some u=some a from h0) with h0
  injection (show some v=some b from h1) with h1
  rw[h0,h1]
theorem ZJa (pl pl':List Pl) (A:List Zx) (c:Zx) (nd nd':Nat->Int):ZBt pl (ZBt pl' A nd'++[c]) nd=ZBt pl (A++[c]) nd:=by
 apply List.ext_getElem?;intro v;rw[ZAT,ZAT,List.getElem?_append,List.getElem?_append,ZD9];split
 ·rw[ZAT]
  cases A[v]? with
  | none=>rfl
  | some w=>rfl
 ·rfl
theorem ZJj {w:Zx} {s:Int} (h:Zf2 w s) (h1:(Zx.Parent w).length=1) (h2:atI (Zx.Cap w) 0=some 0) (l:List Int):ZB6 ZH7 l=ZB6 w l:=by
 obtain ⟨_,a2,a3,_,a5,_⟩:=h;rw[h1] at a2 a3;have hP:Zx.Parent w=[-1]/\Zx.Res w=[0]:=by
  match hp:Zx.Parent w,h1 with
  | [u],_ =>
   obtain ⟨q1,q2⟩:=(a5 0 u (by rw[hp];rfl)).1 rfl
   match hr:Zx.Res w,a2 with
   | [v],_ =>
    grind
 have hC:Zx.Cap w=[0]:=by
  match hc:Zx.Cap w,a3 with
  | [u],_ =>
   rw[hc] at h2;injection (show some u=some 0 from h2) with h2
   rw[h2]
 unfold ZB6;rw[hP.1,hP.2,hC]
def unK (k:Nat) (p:Pl):Nat:=if p.1<0 then k-2 else k
theorem ZHW {b:Zj} (h:ZdN b) (hL:ZEI b) {k:Nat} {p:Pl} {m:Int} {x:Zl} (hs:Zhl (Zj.Design b) (((Zg.X7 (Zj.Design b)).length:Int)-1)=[(k:Int)]) (hp:(Zw (Zj.Design b))[k]?=some p)
  (hpi:p.1≠((Zg.Instances (Zj.Design b)).length:Int)-1) (hx:(Zg.Instances (Zj.Design b))[(Zg.Instances (Zj.Design b)).length-1]?=some x) (hm:atI (Zl.X7 x) 0=some m)
  (hR:ZdN (ZAP b k p m)) {f:ZgL} (he1:ZgL.Cell f=Zl.Cell x) (he2:ZgL.Name f=Zl.Name x) :
  (Zw (unD b p m))[unK k p]?=some (p.1,p.2.1,m,p.2.2.2.1,())/\p.2.2.2.1=false/\ZBk (ZAP b k p m) f (unK k p) (p.1,p.2.1,m,p.2.2.2.1,())=b:=by
 have hwn:=h.ok.2.1;obtain ⟨k',p',hs',hp',hpn,hpd,_⟩:=hL.sink h;have ek:k=k':=by grind
 subst ek;rw[hp] at hp';injection hp' with hp'
 subst hp';obtain ⟨x',c,w,m',hn,hx',hc,hk1,hk2,hl2,hm',hl,hne,hnm,hw,hs1,hs2,hp1,hc0⟩:=hL;rw[hx] at hx';injection hx' with hx'
 subst hx';have em:m'=m:=by grind
 subst em;have hxn:=ZKt hl2 hm hl;obtain ⟨_,_,hnet⟩:=h.ok.1.2.2.1 x (List.mem_of_getElem? hx);have hmn:=hnet m' (by grind);have hpos:1<=(Zg.X7 (Zj.Design b)).length:=by have:=hmn.1;have:=hmn.2;omega
 have tN:Int.toNat (((Zg.X7 (Zj.Design b)).length:Int)-1)=(Zg.X7 (Zj.Design b)).length-1:=by omega
 have hN1:(Zg.X7 (Zj.Design b))[(Zg.X7 (Zj.Design b)).length-1]?=some (Zl.Name x):=by
  unfold atI at hnm;grind
 have hw1:(Zj.Qg b)[(Zj.Qg b).length-1]?=some w:=by
  unfold atI at hw;grind
 have hwhole:=ZJr hn hx hN1;obtain ⟨hk2',hpu⟩:=ZHS (m:=m') hn hx hl2 hp hpi;have hpl0:(Zw (ZAy (Zj.Design b)))[unK k p]?=some p:=by
  have:=(ZHS (m:=p.2.2.1) hn hx hl2 hp hpi).2;unfold unD at this;rw[ZFM hp] at this;exact this
 have hlt:=ZGM hpl0 (.inr trivial);have hun:unD b p m'=ZAE (ZAy (Zj.Design b)) p.1 p.2.1 m':=by
  have:ZAE (Zj.Design b) p.1 p.2.1 m'=ZAJ (ZAE (ZAy (Zj.Design b)) p.1 p.2.1 m') x (Zl.Name x) :=
   (congrArg (λz=>ZAE z p.1 p.2.1 m') hwhole).symm.trans (ZHI hlt)
  unfold unD;rw[this,ZGU]
 have hnr:(Zg.X7 (unD b p m')).length=(Zg.X7 (Zj.Design b)).length-1:=by
  rw[hun,ZAO];show (List.take _ _).length=_
  simp_all
 have hnr2:((Zg.X7 (unD b p m')).length:Int)=p.2.2.1:=by rw[hpn];omega
 have hbi:ZEk (ZAP b k p m') f (p.1,p.2.1,m',p.2.2.2.1,())=x:=by
  show (ZgL.Name f,ZgL.Cell f,[m',((Zg.X7 (unD b p m')).length:Int)],())=x;grind
 have e1:ZDS (ZAP b k p m') f (p.1,p.2.1,m',p.2.2.2.1,())=Zj.Design b:=by
  show ZAJ (ZAE (unD b p m') p.1 p.2.1 ((Zg.X7 (unD b p m')).length:Int)) (ZEk (ZAP b k p m') f (p.1,p.2.1,m',p.2.2.2.1,())) (ZgL.Name f)=_;rw[hbi,hnr2,hun,ZF2 hpl0,ZFM hpl0,he2,hwhole]
 have hI:=ZDZ hn hx hl2;have hIr:ZAv (unD b p m')=ZAv (ZAy (Zj.Design b)):=by rw[hun,ZDQ hpl0]
 have hpp:=ZEK hpl0;have h2l:=ZC1 (ZAy (Zj.Design b));have hside:(p.1<0->ZAv (ZAy (Zj.Design b))<=unK k p/\unK k p+2=k)/\(¬p.1<0->unK k p<ZAv (ZAy (Zj.Design b))/\unK k p=k):=by
  constructor
  ·intro q
   have h3:=hpp.1.1 q;have h4:=hk2' q;have:unK k p=k-2:=if_pos q;omega
  ·intro q
   have:unK k p=k:=if_neg q;grind
 have hK:ZFv (ZAP b k p m') (unK k p)=k:=by
  show (if unK k p<ZAv (unD b p m') then unK k p else unK k p+2)=k;rw[hIr];by_cases q:p.1<0;all_goals grind
 have hplr:Zw (unD b p m')=(Zw (ZAy (Zj.Design b))).set (unK k p) (p.1,p.2.1,m',p.2.2.2.1,()):=by rw[hun,ZAD hpl0]
 have hwl:(Zj.Qg b).length=(Zg.X7 (Zj.Design b)).length:=hwn;have hnode:∀ (i:Nat) (q:Pl),(Zw (unD b p m'))[i]?=some q->q.2.2.2.1=false->ZAz (ZAP b k p m') i=unN b k i:=λi q hq h2=>by
  have hqn:=Zol hR.ok.1 (x:=q) (List.mem_of_getElem? hq);have h3:q.2.2.1<=((Zg.X7 (unD b p m')).length:Int)-1:=hqn.2;exact ZFd (lib:=Zj.Library b) (ws:=(Zj.Qg b).take ((Zj.Qg b).length-1)) (nd:=unN b k) hq h2 hqn.1 (by rw[List.length_take];omega)
 have hu:∀ i,unN b k i=if i<ZAv (ZAy (Zj.Design b)) then mvN b k (ZAz b (ZAv (ZAy (Zj.Design b)))) i else mvN b k (ZAz b (ZAv (ZAy (Zj.Design b)))) (i+2):=λi=>by
  unfold unN ZHb;rw[show ZAv (Zj.Design b)-2=ZAv (ZAy (Zj.Design b)) by omega]
 have hks:ZAz (ZAP b k p m') (unK k p)=ZAz b (ZAv (ZAy (Zj.Design b))):=by
  have hpu':(Zw (unD b p m'))[unK k p]?=some (p.1,p.2.1,m',p.2.2.2.1,()):=hpu;rw[hnode _ _ hpu' hpd,hu];by_cases q:p.1<0
  ·have:=hside.1 q
   rw[if_neg (by omega),this.2];unfold mvN;rw[if_pos rfl]
  ·have:=hside.2 q
   rw[if_pos this.1,this.2];unfold mvN;rw[if_pos rfl]
 obtain ⟨w',a1,_,a3⟩:=ZDO h (n:=((Zg.X7 (Zj.Design b)).length:Int)-1) ⟨by omega,by omega⟩;have ew:w'=w:=by
  grind
 subst ew;have hk0:ZAz b k=0:=by
  have:=ZFj h k p w' hp hpd (by grind);grind
 have hpd0:Zw (Zj.Design b)=Zw (ZAJ (ZAy (Zj.Design b)) x (Zl.Name x)):=congrArg Zw hwhole.symm;have e2:ZBt (Zw (Zj.Design b)) (Zj.Qg b) (ZIr (ZAP b k p m') (unK k p))=Zj.Qg b:=by
  refine (ZFI (nd':=ZAz b) λj q hq h2=>?_).trans (ZHm h);unfold ZIr ZHa;rw[hK,hks,show ZAv (Zj.Design (ZAP b k p m'))=ZAv (ZAy (Zj.Design b)) from hIr];by_cases c0:j=k
  ·grind
  rw[if_neg c0];rw[hpd0] at hq;by_cases c1:j<ZAv (ZAy (Zj.Design b))
  ·rw[ZFq c1] at hq
   have c2:j≠unK k p:=by
    grind
   rw[if_pos c1,hnode j q (by rw[hplr,List.getElem?_set_ne (Ne.symm c2)];exact hq) h2,hu,if_pos c1];unfold mvN;rw[if_neg c0]
  rw[if_neg c1];by_cases c3:j=ZAv (ZAy (Zj.Design b))
  ·rw[if_pos c3,c3]
  rw[if_neg c3];by_cases c4:j=ZAv (ZAy (Zj.Design b))+1
  ·exfalso
   have h5:=add_mid (d:=ZAy (Zj.Design b)) (x:=x) (s:=Zl.Name x) (j:=1) (by rw[hl2];omega);have h6:=ZC0 (i:=(Zg.Instances (ZAy (Zj.Design b))).length) (x:=x) (j:=1) (n:=((Zg.X7 (Zj.Design b)).length:Int)-1) (by rw[hxn];rfl);rw[<-c4,hq,h6] at h5;injection h5 with h5
   rw[h5] at h2;revert h2;show ¬(decide ((1:Int)=Wq (((Zl.X7 x).length:Int)-1))=false);rw[hl2,Zar (by omega) (by omega)];simp
  ·have h5:=ZE4 (d:=ZAy (Zj.Design b)) (x:=x) (s:=Zl.Name x) (k:=j-2) (by omega)
   rw[hl2,show j-2+2=j by omega,hq] at h5;have c2:j-2≠unK k p:=by
    omega
   rw[if_neg c4,hnode (j-2) q (by rw[hplr,List.getElem?_set_ne (Ne.symm c2)];exact h5.symm) h2,hu,if_neg (by omega),show j-2+2=j by omega];unfold mvN;rw[if_neg c0]
 have hwt:(Zj.Qg b).take ((Zj.Qg b).length-1)++[w']=Zj.Qg b:=by
  have:=Yy hw1;rw[show (Zj.Qg b).length-1+1=(Zj.Qg b).length by omega,List.take_length] at this;exact this.symm
 refine ⟨hpu,hpd,?_⟩;show ((Zj.Library b,ZDS (ZAP b k p m') f (p.1,p.2.1,m',p.2.2.2.1,()),ZBt (Zw (ZDS (ZAP b k p m') f (p.1,p.2.1,m',p.2.2.2.1,()))) (ZBt (Zw (unD b p m')) ((Zj.Qg b).take ((Zj.Qg b).length-1)) (unN b k)++[ZH7]) (ZIr (ZAP b k p m') (unK k p)),()):Zj)=b;rw[e1,ZJa,ZHD _ _ _ (w':=w') (ZJj a3 hp1 hc0),hwt,e2]
theorem app1 {b:Zj} {e:ZgL} (hB:ZdN b) (k1:ZgL.Kind e=1) {p:Pl} {x:Zl} (hp:ZCd b e p) (h0:0<=p.1) (hx:(Zg.Instances (Zj.Design b))[p.1.toNat]?=some x):ZAp e b=some (ZDa b p.1 (ZgL.Cell e)):=by
 unfold ZAp;rw[ZAR _ hB.sm,Bq,if_pos k1,Q5 _ hB.ok.1.few,Bq,hp.at,Bq];simp only[show YA.instance p=p.1 from rfl,Zbc h0 hx,Bq];unfold ZDa;rw[hx]
theorem app2 {b:Zj} {e:ZgL} (h:ZCe b e) (k2:ZgL.Kind e=2) (hs:sm .str (ZgL.Name e)) {p:Pl} (hp:ZCd b e p) (hd:p.2.2.2.1=false):ZAp e b=some (ZBk b e (ZgL.Place e).toNat p):=by
 unfold ZAp;rw[ZAR _ h.blk.sm,Bq,if_neg (by omega),if_pos k2,ZFt h k2 hs hp hd];rfl
theorem app3 {b:Zj} {e:ZgL} (hB:ZdN b) (hL:ZEI b) (k3:ZgL.Kind e=3):∃ (k:Nat) (p:Pl) (m:Int),Zhl (Zj.Design b) (((Zg.X7 (Zj.Design b)).length:Int)-1)=[(k:Int)]/\(Zw (Zj.Design b))[k]?=some p/\p.1≠((Zg.Instances (Zj.Design b)).length:Int)-1/\
  (∀ y,(Zg.Instances (Zj.Design b))[(Zg.Instances (Zj.Design b)).length-1]?=some y->atI (Zl.X7 y) 0=some m)/\ZAp e b=some (ZAP b k p m):=by
 obtain ⟨k,p,m,v,hs,hp,hpi,hm,hv,hun⟩:=ZCs hB hL;obtain ⟨hn,x,hx,hl2⟩:=hL.two;have hn2:0<(Zg.Instances (ZAE (Zj.Design b) p.1 p.2.1 m)).length:=by rw[ZAA];exact hn
 have hx4:(Zg.Instances (ZAE (Zj.Design b) p.1 p.2.1 m))[(Zg.Instances (ZAE (Zj.Design b) p.1 p.2.1 m)).length-1]?=some ((Zg.Instances (ZAE (Zj.Design b) p.1 p.2.1 m))[(Zg.Instances (ZAE (Zj.Design b) p.1 p.2.1 m)).length-1]'(by omega)):=List.getElem?_eq_getElem _;generalize (Zg.Instances (ZAE (Zj.Design b) p.1 p.2.1 m))[(Zg.Instances (ZAE (Zj.Design b) p.1 p.2.1 m)).length-1]'(by omega)=x' at hx4;obtain ⟨y,hy,_,_,hyl,_⟩:=ZDb hx4;rw[ZAA,hx] at hy;injection hy with hy
 have h5:=ZDZ hn2 hx4 (by rw[hyl,<-hy,hl2]);have h6:=ZDQ hp m;have hins:ZAv (unD b p m)=ZAv (Zj.Design b)-2:=by unfold unD;omega
 refine ⟨k,p,m,hs,hp,hpi,hm,?_⟩;unfold ZAp;rw[ZAR _ hB.sm,Bq,if_neg (by omega),if_neg (by omega),if_pos k3,hun,hins,hv];rfl
theorem app4 {b:Zj} {e:ZgL} (hB:ZdN b) (k4:ZgL.Kind e=4) {p:Pl} (hp:ZCd b e p) (hd:p.2.2.2.1=false) (hn:ZnY (Zj.Design b) (ZgL.Net e)):ZAp e b=some (moved b (ZgL.Place e).toNat p (ZgL.Net e) (ZgL.Node e)):=by
 unfold ZAp;rw[ZAR _ hB.sm,Bq,if_neg (by omega),if_neg (by omega),if_neg (by omega),if_pos k4,ZB3 hB,Bq,Q5 _ hB.ok.1.few,Bq,hp.at,Bq,
  show (YA.instance p,YA.pin p,())=(p.1,p.2.1,()) from rfl,ZDT hp.2,Bq]
 exact congrArg (λo=>Option.bind o λconnect0=>some connect0) (ZGg hB hp.2 hd hn (v:=ZgL.Node e))
theorem ZLh {b:Zj} {e:ZgL} (hB:ZdN b) (k5:ZgL.Kind e=5) (hn:ZnY (Zj.Design b) (ZgL.Net e)) (hs:sm Za9 (ZgL.ZAj e)):ZAp e b=some (ZIZ b (ZgL.Net e) (ZgL.ZAj e)):=by
 obtain ⟨w,hw1,hw2,_⟩:=ZDO hB hn;unfold ZAp;rw[ZAR _ hB.sm,Bq,if_neg (by omega),if_neg (by omega),if_neg (by omega),if_neg (by omega),if_pos k5,ZBR _ hs,Bq,hw2,Bq];rfl
theorem ZGW {α:Type} {p:α->Bool} {l:List α} (h:∀ x∈l,p x=false):Zdq p l<0:=by
 rcases Int.lt_or_le (Zdq p l) 0 with h1 | h1
 ·exact h1
 ·obtain ⟨x,hx,hp⟩:=List.any_eq_true.1 (VD.1 h1)
  grind
abbrev noW:Zx:=(([]:List Int),([]:List Int),([]:List Int),([]:List Int),())
theorem ZIS:ZE3 noW:=⟨rfl,rfl,rfl,rfl⟩
theorem undo {b:Zj} {e:ZgL} (h:ZCe b e) (he:sm Zug e):∃ (r:Zj) (f:ZgL),ZAp e b=some r/\ZAr e b=some f/\ZdN r/\sm Zug f/\ZCe r f/\ZAp f r=some b:=by
 have hB:=h.blk;have hf:=hB.ok.1.few;have hpl:=V9 hf;have h14:=hf.insts;have h30:=hB.ok.1.2.1.2.1;have hwn:=hB.ok.2.1;obtain ⟨b1,b2,b3⟩:=ZnM hB.sm;by_cases k1:ZgL.Kind e=1
 ·obtain ⟨p,x,c,c2,hp,h0,hd,hx,hc,hc2,ha⟩:=h.poss.1 k1
  obtain ⟨hpr,hcr⟩:=h.range.1 (.inl k1);have hx2:(Zg.Instances (Zj.Design b))[p.1.toNat]?=some x:=by
   unfold atI at hx;grind
  obtain ⟨⟨hxc,hxc2⟩,_,_⟩:=hB.ok.1.2.2.1 x (List.mem_of_getElem? hx2);have hc3:(Zt.Cells (Zj.Library b))[(Zl.Cell x).toNat]?=some c:=by
   unfold atI at hc;grind
  have hc4:(Zt.Cells (Zj.Library b))[(ZgL.Cell e).toNat]?=some c2:=by
   unfold atI at hc2;grind
  have hsc:=ZeM (Ztf b1) hc3;have hsc2:=ZeM (Ztf b1) hc4;have hR:=ZHB hB h0 hx2 hc3 hc4 hcr (ZH5 hsc hsc2 ha);have e0:ZDa b p.1 (ZgL.Cell e)=(Zj.Library b,((Zg.Instances (Zj.Design b)).set p.1.toNat (Zl.Name x,ZgL.Cell e,Zl.X7 x,()),Zg.X7 (Zj.Design b),Zg.Xb (Zj.Design b),()),Zj.Qg b,()):=by
   unfold ZDa;rw[hx2]
  have ha1:=app1 hB k1 hp h0 hx2;have hinv:ZAr e b=some (1,ZgL.Place e,Zl.Cell x,0,0,[],noW,()):=by
   unfold ZAr;rw[if_pos k1,Q5 _ hf,Bq,hp.at,Bq];grind
  rw[e0] at hR ha1;generalize hr:((Zj.Library b,((Zg.Instances (Zj.Design b)).set p.1.toNat (Zl.Name x,ZgL.Cell e,Zl.X7 x,()),Zg.X7 (Zj.Design b),Zg.Xb (Zj.Design b),()),Zj.Qg b,()):Zj)=r at hR ha1;have hpr2:Zw (Zj.Design r)=Zw (Zj.Design b):=by rw[<-hr];exact ZDW hx2 (ZgL.Cell e)
  have hxr:(Zg.Instances (Zj.Design r))[p.1.toNat]?=some (Zl.Name x,ZgL.Cell e,Zl.X7 x,()):=by grind
  have hlr:Zj.Library r=Zj.Library b:=by rw[<-hr]
  have hpf:ZCd r ((1,ZgL.Place e,Zl.Cell x,0,0,[],noW,()):ZgL) p:=⟨hp.1,by rw[hpr2];exact hp.2⟩;have hC:ZCe r (1,ZgL.Place e,Zl.Cell x,0,0,[],noW,()):=by
   refine ⟨hR,.inl ⟨rfl,rfl,rfl,rfl,ZIS⟩,⟨λ_=>⟨by rw[hpr2];exact hpr,by grind⟩,λ(k:(1:Int)=4)=>by omega,λ(k:(1:Int)=5)=>by omega⟩,
    ⟨λ_=>⟨p,(Zl.Name x,ZgL.Cell e,Zl.X7 x,()),c2,c,hpf,h0,hd,Zbc h0 hxr,by rw[hlr];exact hc2,by rw[hlr];exact hc,ZI1 hsc hsc2 ha⟩,λ(k:(1:Int)=2)=>by omega,λ(k:(1:Int)=3)=>by omega,λ(k:(1:Int)=4)=>by omega,λ(k:(1:Int)=5)=>by omega⟩,λ(k:(1:Int)=2)=>by omega⟩
  refine ⟨r,_,ha1,hinv,hR,ZEG ZD1 ZDz,hC,?_⟩;rw[app1 hR rfl hpf h0 hxr];unfold ZDa;rw[hxr];show some ((Zj.Library r,((Zg.Instances (Zj.Design r)).set p.1.toNat (Zl.Name x,Zl.Cell x,Zl.X7 x,()),Zg.X7 (Zj.Design r),Zg.Xb (Zj.Design r),()),Zj.Qg r,()):Zj)=some b;rw[<-hr];show some ((Zj.Library b,(List.set (List.set (Zg.Instances (Zj.Design b)) p.1.toNat _) p.1.toNat x,Zg.X7 (Zj.Design b),Zg.Xb (Zj.Design b),()),Zj.Qg b,()):Zj)=some b;rw[List.set_set,ZkQ hx2]
 by_cases k2:ZgL.Kind e=2
 ·obtain ⟨p,c,hp,hd,_⟩:=h.poss.2.1 k2
  have hs:=(ZEN he).1;have hR:=ZEo h k2 hs hp;obtain ⟨hL,hsk,hpk⟩:=ZIM h k2 hp hd;have hinv:ZAr e b=some (3,0,0,0,0,[],noW,()):=by
   unfold ZAr;grind
  refine ⟨_,_,app2 h k2 hs hp hd,hinv,hR,ZEG ZD1 ZDz,⟨hR,.inr (.inr (.inl ⟨rfl,rfl,rfl,rfl,rfl,rfl,ZIS⟩)),⟨λ(k:(3:Int)=1\/(3:Int)=2)=>by omega,λ(k:(3:Int)=4)=>by omega,λ(k:(3:Int)=5)=>by omega⟩,
   ⟨λ(k:(3:Int)=1)=>by omega,λ(k:(3:Int)=2)=>by omega,λ_=>hL,λ(k:(3:Int)=4)=>by omega,λ(k:(3:Int)=5)=>by omega⟩,λ(k:(3:Int)=2)=>by omega⟩,?_⟩
  obtain ⟨k',p',m',g1,g2,g3,g4,g5⟩:=app3 (e:=((3,0,0,0,0,[],noW,()):ZgL)) hR hL rfl;rw[g5];have hNl:=ZGP b e p;have hNe:((Zg.X7 (ZDS b e p)).length:Int)-1=((Zg.X7 (Zj.Design b)).length:Int):=by omega
  have g1':Zhl (ZDS b e p) (((Zg.X7 (ZDS b e p)).length:Int)-1)=[(k':Int)]:=g1;rw[hNe,hsk] at g1';injection g1' with g1' _
  have ek:k'=ZFv b (ZgL.Place e).toNat:=by omega
  subst ek;have g2':(Zw (ZDS b e p))[ZFv b (ZgL.Place e).toNat]?=some p':=g2;rw[hpk] at g2';injection g2' with g2'
  subst g2';have g6:=g4 (ZEk b e p) (by
   show (Zg.Instances (ZAE (Zj.Design b) p.1 p.2.1 _)++[ZEk b e p])[(Zg.Instances (ZAE (Zj.Design b) p.1 p.2.1 _)++[ZEk b e p]).length-1]?=some _
   simp_all)
  injection (show some p.2.2.1=some m' from g6) with g6
  subst g6;rw[ZIK h k2 hs hp hd]
 by_cases k3:ZgL.Kind e=3
 ·have hL:=h.poss.2.2.1 k3
  obtain ⟨k,p,m,hs,hp,hpi,hm,ha3⟩:=app3 hB hL k3;have hR:=ZEZ hB hL hs hp hpi hm;obtain ⟨hn,x,hx,hl2⟩:=hL.two;have hsx:sm YJ x:=ZeM (Zjh b2).1 hx;have hmx:=hm x hx;obtain ⟨hxc,⟨c',hxc',hcl⟩,hnet⟩:=hB.ok.1.2.2.1 x (List.mem_of_getElem? hx);have hx2:atI (Zg.Instances (Zj.Design b)) (((Zg.Instances (Zj.Design b)).length:Int)-1)=some x:=Zbc (by omega) (by simp_all);obtain ⟨hpu,hpd,hundo⟩:=ZHW hB hL hs hp hpi hx hmx hR (f:=((2,((unK k p:Nat):Int),Zl.Cell x,0,0,Zl.Name x,noW,()):ZgL)) rfl rfl;have hinv:ZAr e b=some (2,((unK k p:Nat):Int),Zl.Cell x,0,0,Zl.Name x,noW,()):=by
   unfold ZAr;rw[if_neg k1,if_neg k2,if_pos k3];obtain ⟨k',p',m',v',hs',hp',hpi',hm',_,hun⟩:=ZCs hB hL;have ek:k=k':=by grind
   subst ek;rw[hp] at hp';injection hp' with hp'
   subst hp';have em:m=m':=by
    grind
   subst em;have hpo:=ZFa (unD b p m) (hf.ZAE p.1 p.2.1 m).cut hpu;rw[ZAR _ hB.sm,Bq,hun,Bq,Zar (n:=((Zg.Instances (Zj.Design b)).length:Int)-1) (by omega) (by omega),hx2,Bq];grind
  have hpf:ZCd (ZAP b k p m) ((2,((unK k p:Nat):Int),Zl.Cell x,0,0,Zl.Name x,noW,()):ZgL) (p.1,p.2.1,m,p.2.2.2.1,()):=⟨by grind,hpu⟩;have hpos:=hL;obtain ⟨x',c,w,m',_,hx',hc,hk1,hk2,_,_,hl,_,hnm,hw,_,_,_,_⟩:=hpos;rw[hx] at hx';injection hx' with hx'
  subst hx';have hpn1:1<=(Zg.X7 (Zj.Design b)).length:=by
   have q:=hnet m (List.mem_of_getElem? (show (Zl.X7 x)[0]?=some m from hmx));have:=q.1;have:=q.2;omega
  have tN:Int.toNat (((Zg.X7 (Zj.Design b)).length:Int)-1)=(Zg.X7 (Zj.Design b)).length-1:=by omega
  have hN1:(Zg.X7 (Zj.Design b))[(Zg.X7 (Zj.Design b)).length-1]?=some (Zl.Name x):=by
   unfold atI at hnm;grind
  have hin:(ZcP (Zj.Design b))[(Zg.Instances (Zj.Design b)).length-1]?=some (Zl.Name x):=by
   show (List.map Zl.Name _)[_]?=_;grind
  have hi1:=hB.ok.1.2.1.2.2.2.1 _ _ (List.getElem?_eq_some_iff.1 hin).1 hin;have hi2:=hB.ok.1.2.1.2.2.2.2.1 _ _ (List.getElem?_eq_some_iff.1 hN1).1 hN1;have hri:ZcP (unD b p m)=(ZcP (Zj.Design b)).take ((Zg.Instances (Zj.Design b)).length-1):=by
   have:=ZEr (Zj.Design b) p.1 p.2.1 m;show List.map Zl.Name ((Zg.Instances (ZAE (Zj.Design b) p.1 p.2.1 m)).take _)=_;rw[List.map_take,ZAA];exact congrArg (λl=>List.take ((Zg.Instances (Zj.Design b)).length-1) l) this
  have hrn:Zg.X7 (unD b p m)=(Zg.X7 (Zj.Design b)).take ((Zg.X7 (Zj.Design b)).length-1):=by
   show (Zg.X7 (ZAE (Zj.Design b) p.1 p.2.1 m)).take _=_;rw[ZAO]
  have hrl:(Zg.Instances (unD b p m)).length=(Zg.Instances (Zj.Design b)).length-1:=by
   show ((Zg.Instances (ZAE (Zj.Design b) p.1 p.2.1 m)).take _).length=_;rw[List.length_take,ZAA];omega
  have hC:ZCe (ZAP b k p m) ((2,((unK k p:Nat):Int),Zl.Cell x,0,0,Zl.Name x,noW,()):ZgL):=by
   refine ⟨hR,.inr (.inl ⟨rfl,rfl,rfl,ZIS⟩),⟨λ_=>⟨⟨by grind,?_⟩,hxc⟩,λ(k:(2:Int)=4)=>by omega,λ(k:(2:Int)=5)=>by omega⟩,
    ⟨λ(k:(2:Int)=1)=>by omega,λ_=>⟨_,c,hpf,hpd,Zbc hxc.1 hc,hk1,hk2,hi1.1,?_,?_⟩,λ(k:(2:Int)=3)=>by omega,λ(k:(2:Int)=4)=>by omega,λ(k:(2:Int)=5)=>by omega⟩,λ_=>⟨?_,?_⟩⟩
   ·have:=(List.getElem?_eq_some_iff.1 hpu).1
    show ((unK k p:Nat):Int)<=((Zw (unD b p m)).length:Int)-1;omega
   ·refine ZGW λy hy=>?_
    have h1:Zl.Name y∈ZcP (unD b p m):=List.mem_map_of_mem hy;grind
   ·refine ZGW λy hy=>?_
    have h1:y∈Zg.X7 (unD b p m):=hy;grind
   ·show (Zg.Instances (unD b p m)).length<=13
    omega
   ·show (Zg.X7 (unD b p m)).length<=29
    grind
  have hsf:sm Zug ((2,((unK k p:Nat):Int),Zl.Cell x,0,0,Zl.Name x,noW,()):ZgL):=ZEG (Zov hsx).1 ZDz;refine ⟨_,_,ha3,hinv,hR,hsf,hC,?_⟩;rw[app2 hC rfl (Zov hsx).1 hpf hpd];exact congrArg some hundo
 by_cases k4:ZgL.Kind e=4
 ·obtain ⟨p,hp,hd,hne⟩:=h.poss.2.2.2.1 k4
  obtain ⟨hpr,hn,w,hw,hnode⟩:=h.range.2.1 k4;have hR:=ZIR hB hp.2 hd hn (v:=ZgL.Node e) (λw' hw'=>by grind);have hm:=ZEl (Zj.Design b) (ZAz b) (ZgL.Place e).toNat p hp.2 hd;have hinv:ZAr e b=some (4,ZgL.Place e,0,p.2.2.1,ZAz b (ZgL.Place e).toNat,[],noW,()):=by
   unfold ZAr;rw[if_neg k1,if_neg k2,if_neg k3,if_pos k4,Q5 _ hf,Bq,hp.at,Bq,ZB3 hB,Bq];rw[show ZrG Zui (Ty.int IntKind.i64) (ZB5 (Zw (Zj.Design b)) (ZAz b) (Zw (Zj.Design b)).length) (YA.instance p,YA.pin p,())=some (ZAz b (ZgL.Place e).toNat) from hm];rfl
  have hplr:Zw (mvD b p (ZgL.Net e))=(Zw (Zj.Design b)).set (ZgL.Place e).toNat (p.1,p.2.1,ZgL.Net e,p.2.2.2.1,()):=ZAD hp.2 _;have hpf:ZCd (moved b (ZgL.Place e).toNat p (ZgL.Net e) (ZgL.Node e)) ((4,ZgL.Place e,0,p.2.2.1,ZAz b (ZgL.Place e).toNat,[],noW,()):ZgL) (p.1,p.2.1,ZgL.Net e,p.2.2.2.1,()):=⟨hp.1,by
   show (Zw (mvD b p (ZgL.Net e)))[(ZgL.Place e).toNat]?=_;grind⟩
  have hpn:=Zol hB.ok.1 hp.mem;have hnR:ZnY (mvD b p (ZgL.Net e)) p.2.2.1:=by
   unfold ZnY mvD;rw[ZAO];exact hpn
  obtain ⟨w0,hw0,_,_⟩:=ZDO hB hpn;have hC:ZCe (moved b (ZgL.Place e).toNat p (ZgL.Net e) (ZgL.Node e)) ((4,ZgL.Place e,0,p.2.2.1,ZAz b (ZgL.Place e).toNat,[],noW,()):ZgL):=by
   refine ⟨hR,.inr (.inr (.inr (.inl ⟨rfl,rfl,rfl,ZIS⟩))),⟨λ(k:(4:Int)=1\/(4:Int)=2)=>by omega,λ_=>⟨⟨hpr.1,?_⟩,hnR,ZB6 w0 ((cat (Zl1 ((p.2.2.1.toNat:Nat):Int)) 0 (Zw (mvD b p (ZgL.Net e)))).map λk=>mvN b (ZgL.Place e).toNat (ZgL.Node e) k.toNat),?_,ZFj hB _ p w0 hp.2 hd hw0⟩,λ(k:(4:Int)=5)=>by omega⟩,
    ⟨λ(k:(4:Int)=1)=>by omega,λ(k:(4:Int)=2)=>by omega,λ(k:(4:Int)=3)=>by omega,λ_=>⟨_,hpf,hd,λq=>hne (show p.2.2.1=ZgL.Net e from Eq.symm q)⟩,λ(k:(4:Int)=5)=>by omega⟩,λ(k:(4:Int)=2)=>by omega⟩
   ·show ZgL.Place e<=((Zw (mvD b p (ZgL.Net e))).length:Int)-1
    grind
   ·show (ZBt (Zw (mvD b p (ZgL.Net e))) (Zj.Qg b) (mvN b (ZgL.Place e).toNat (ZgL.Node e)))[p.2.2.1.toNat]?=_
    rw[ZAT,hw0];rfl
  refine ⟨_,_,app4 hB k4 hp hd hn,hinv,hR,ZEG ZD1 ZDz,hC,?_⟩;rw[app4 hR rfl hpf hd hnR];exact congrArg some (ZJX hB hp.2 (ZgL.Net e) (ZgL.Node e))
 ·have k5:ZgL.Kind e=5:=by have:=h.blank;unfold Blank at this;omega
  have hn:=h.range.2.2 k5;obtain ⟨w,hw1,hw2,hw3⟩:=ZDO hB hn;have hsw:=(ZEN he).2;have hsw0:sm Za9 w:=ZeM b3 hw1;have hR:=ZIn hB hn (h.poss.2.2.2.2 k5) hsw;have hinv:ZAr e b=some (5,0,0,ZgL.Net e,0,[],w,()):=by
   unfold ZAr;rw[if_neg k1,if_neg k2,if_neg k3,if_neg k4,hw2,Bq,ZBR _ hsw0];rfl
  have hC:ZCe (ZIZ b (ZgL.Net e) (ZgL.ZAj e)) ((5,0,0,ZgL.Net e,0,[],w,()):ZgL):=by
   refine ⟨hR,.inr (.inr (.inr (.inr ⟨rfl,rfl,rfl,rfl,rfl⟩))),⟨λ(k:(5:Int)=1\/(5:Int)=2)=>by omega,λ(k:(5:Int)=4)=>by omega,λ_=>hn⟩,
    ⟨λ(k:(5:Int)=1)=>by omega,λ(k:(5:Int)=2)=>by omega,λ(k:(5:Int)=3)=>by omega,λ(k:(5:Int)=4)=>by omega,λ_=>hw3⟩,λ(k:(5:Int)=2)=>by omega⟩
  refine ⟨_,_,ZLh hB k5 hn hsw,hinv,hR,ZEG ZD1 hsw0,hC,?_⟩;rw[ZLh (e:=((5,0,0,ZgL.Net e,0,[],w,()):ZgL)) hR rfl hn hsw0];show some ((Zj.Library b,Zj.Design b,List.set (List.set (Zj.Qg b) _ _) (ZgL.Net e).toNat w,()):Zj)=some b;rw[List.set_set,ZkQ hw1]
def DN (d:Zg):Prop:=(Zg.X7 d).length=(ZcP d).length+3/\(∃ r,(ZcP d)[0]?=some (117::r))/\∃ r,(Zg.X7 d)[3]?=some (110::r)
theorem ZJ1.dn {d:Zg} (h:ZJ1 d):DN d:=by
 have hn:=h.n0;have hx:=List.getElem?_eq_getElem (show 0<(Zg.Instances d).length by omega);generalize (Zg.Instances d)[0]=x at hx;have hs:=List.getElem?_eq_getElem (show 3<(Zg.X7 d).length by have:=h.nl;omega);generalize (Zg.X7 d)[3]'(by have:=h.nl;omega)=s at hs;obtain ⟨⟨r,e,_⟩,_⟩:=h.inst x (List.mem_of_getElem? hx);obtain ⟨r2,e2,_⟩:=h.net s (List.mem_of_getElem? hs);refine ⟨by unfold ZcP;rw[List.length_map];exact h.nl,⟨r,?_⟩,⟨r2,by rw[hs,e2]⟩⟩;unfold ZcP;grind
theorem ZK2 {d d':Zg} (h:DN d) (h1:ZcP d'=ZcP d) (h2:Zg.X7 d'=Zg.X7 d):DN d':=by
 unfold DN;rw[h1,h2];exact h
theorem ZJ7 {b:Zj} {e:ZgL} (h:ZCe b e) (he:sm Zug e) (hd:DN (Zj.Design b)) {r:Zj} (hr:ZAp e b=some r):DN (Zj.Design r):=by
 have hB:=h.blk;by_cases k1:ZgL.Kind e=1
 ·obtain ⟨p,x,c,c2,hp,h0,_,hx,_⟩:=h.poss.1 k1
  have hx2:(Zg.Instances (Zj.Design b))[p.1.toNat]?=some x:=by
   unfold atI at hx;grind
  rw[app1 hB k1 hp h0 hx2] at hr;injection hr with hr
  subst hr;refine ZK2 hd ?_ ?_
  ·unfold ZDa
   rw[hx2];show List.map Zl.Name (List.set _ _ _)=_;rw[List.map_set];exact ZkQ (by grind)
  ·unfold ZDa
   rw[hx2]
 by_cases k2:ZgL.Kind e=2
 ·obtain ⟨p,c,hp,hpd,_⟩:=h.poss.2.1 k2
  rw[app2 h k2 (ZEN he).1 hp hpd] at hr;injection hr with hr
  subst hr;obtain ⟨d1,⟨r1,d2⟩,⟨r2,d3⟩⟩:=hd;have e1:ZcP (ZDS b e p)=ZcP (Zj.Design b)++[ZgL.Name e]:=by
   show List.map Zl.Name (Zg.Instances (ZAE (Zj.Design b) p.1 p.2.1 _)++[ZEk b e p])=_;rw[List.map_append];exact congrArg (·++[ZgL.Name e]) (ZEr (Zj.Design b) p.1 p.2.1 _)
  have e2:Zg.X7 (ZDS b e p)=Zg.X7 (Zj.Design b)++[ZgL.Name e]:=by
   show Zg.X7 (ZAE (Zj.Design b) p.1 p.2.1 _)++[ZgL.Name e]=_;rw[ZAO]
  have l1:=(List.getElem?_eq_some_iff.1 d2).1;have l2:=(List.getElem?_eq_some_iff.1 d3).1;show DN (ZDS b e p);unfold DN;grind
 by_cases k3:ZgL.Kind e=3
 ·have hL:=h.poss.2.2.1 k3
  obtain ⟨k,p,m,_,_,_,_,ha⟩:=app3 hB hL k3;rw[ha] at hr;injection hr with hr
  subst hr;obtain ⟨x,c,w,m',hn,hx,_,_,_,_,_,_,_,hnm,_⟩:=hL;obtain ⟨d1,⟨r1,d2⟩,⟨r2,d3⟩⟩:=hd;have hil:(ZcP (Zj.Design b)).length=(Zg.Instances (Zj.Design b)).length:=List.length_map ..;have hN1:(Zg.X7 (Zj.Design b))[(Zg.X7 (Zj.Design b)).length-1]?=some (Zl.Name x):=by
   have tN:Int.toNat (((Zg.X7 (Zj.Design b)).length:Int)-1)=(Zg.X7 (Zj.Design b)).length-1:=by omega
   unfold atI at hnm;grind
  have hin:(ZcP (Zj.Design b))[(Zg.Instances (Zj.Design b)).length-1]?=some (Zl.Name x):=by
   show (List.map Zl.Name _)[_]?=_;grind
  have h2:2<=(Zg.Instances (Zj.Design b)).length:=by
   grind
  have e1:ZcP (unD b p m)=(ZcP (Zj.Design b)).take ((Zg.Instances (Zj.Design b)).length-1):=by
   have:=ZEr (Zj.Design b) p.1 p.2.1 m;show List.map Zl.Name ((Zg.Instances (ZAE (Zj.Design b) p.1 p.2.1 m)).take _)=_;rw[List.map_take,ZAA];exact congrArg (λl=>List.take ((Zg.Instances (Zj.Design b)).length-1) l) this
  have e2:Zg.X7 (unD b p m)=(Zg.X7 (Zj.Design b)).take ((Zg.X7 (Zj.Design b)).length-1):=by
   show (Zg.X7 (ZAE (Zj.Design b) p.1 p.2.1 m)).take _=_;rw[ZAO]
  show DN (unD b p m);unfold DN;rw[e1,e2];refine ⟨by grind,⟨r1,?_⟩,⟨r2,?_⟩⟩;all_goals grind
 by_cases k4:ZgL.Kind e=4
 ·obtain ⟨p,hp,hpd,_⟩:=h.poss.2.2.2.1 k4
  obtain ⟨_,hn,_⟩:=h.range.2.1 k4;rw[app4 hB k4 hp hpd hn] at hr;injection hr with hr
  subst hr;exact ZK2 hd (ZEr _ _ _ _) ZAO
 ·have k5:ZgL.Kind e=5:=by have:=h.blank;unfold Blank at this;omega
  rw[ZLh hB k5 (h.range.2.2 k5) (ZEN he).2] at hr;injection hr with hr
  subst hr;exact hd
def ZKV (b:Zj):Prop:=sm Xz b/\(ZhJ b->Zj.Qg b≠[]->DN (Zj.Design b))
theorem DN.insts {d:Zg} (h:DN d):1<=(Zg.Instances d).length:=by
 obtain ⟨_,⟨r,e⟩,_⟩:=h;have:=(List.getElem?_eq_some_iff.1 e).1;unfold ZcP at this;grind
theorem ZJD {d:Zg} (hf:Few d) (i p:Int):ZAH (ZDt d i p) (λ_=>True):=by
 have hl:=V9 hf;unfold ZDt;rw[QA d hf,Bq];refine ZAH.loop (λv=>0<=v.1/\v.1<=100) (λv=>(100-v.1).toNat) ⟨Int.le_refl _,by dsimp only;omega⟩ ?_;rintro ⟨k,⟨⟩⟩ ⟨i0,i1⟩;dsimp only at i0 i1;show ZAH (ZDI i p (Zw d) k) _;unfold ZDI;split
 ·rename_i hk
  have hk:k<((Zw d).length:Int):=hk;have ek:Wq (k+1)=k+1:=Zar (by omega) (by omega);simp only[ek];refine .at i0 hk λx _ _=>?_;repeat' first
   | exact ZAH.ret (show Rnd _ _ _ (λ_=>True) (.inr _) from trivial)
   | exact .ret ⟨⟨by dsimp only;omega,by dsimp only;omega⟩,by dsimp only;omega⟩
   | split
 ·exact ZAH.ret (show Rnd _ _ _ (λ_=>True) (.inr _) from trivial)
theorem ZIi {s:Zdd} (hs:Src s) {b:Zj} (hf:Few (Zj.Design b)) (hne:1<=(Zw (Zj.Design b)).length):ZAH (ZAI s b) (λr=>Src r.2):=by
 have hl:=V9 hf;unfold ZAI;rw[QA _ hf,Bq];refine (ZAn hs _).bind λr0 ⟨⟨a0,a1⟩,h0⟩=>?_;refine ZAH.loop (λv=>(0<=v.1/\v.1<((Zw (Zj.Design b)).length:Int))/\0<=v.2.1/\v.2.1<=100) (λv=>(100-v.2.1).toNat) ⟨⟨a0,by dsimp only;omega⟩,by dsimp only;omega,by dsimp only;omega⟩ ?_;rintro ⟨k,i,⟨⟩⟩ ⟨⟨k0,k1⟩,i0,i1⟩;dsimp only at k0 k1 i0 i1;have fin:∀ k':Int,ZAH ((ZAm r0.snd (12:Int)).bind λl01Next1 =>
   if l01Next1.fst=(0:Int) then
    (ZAm l01Next1.snd (Wq ((↑(List.length (Zw (Zj.Design b))):Int)+(2:Int)))).bind λl01Next2 =>
    some (.inr (Wq (l01Next2.fst-(1:Int)),l01Next2.snd))
   else
    some (.inr (k',l01Next1.snd):(Int×Int×Unit) ⊕ (Int×Zdd)))
   (Rnd (λv:Int×Int×Unit=>(0<=v.1/\v.1<((Zw (Zj.Design b)).length:Int))/\0<=v.2.1/\v.2.1<=100) (λv=>(100-v.2.1).toNat) (100-i).toNat (λr=>Src r.2)):=λk'=>by
  refine (ZAn h0 12).bind λr1 ⟨_,h1⟩=>?_;split
  ·refine (ZAn h1 _).bind λr2 ⟨_,h2⟩=>?_
   exact .ret (show Src r2.2 from h2)
  ·exact .ret (show Src r1.2 from h1)
 show ZAH (ZCG (Zw (Zj.Design b)) r0 k i) _;unfold ZCG;split
 ·rename_i hi
  have hi:i<((Zw (Zj.Design b)).length:Int):=hi;refine .at k0 k1 λx _ _=>?_;split
  ·have ek:Wq (k+1)=k+1:=Zar (by omega) (by omega)
   have ei:Wq (i+1)=i+1:=Zar (by omega) (by omega);rw[ek,ei];refine .guard (by grind) (.ret ⟨⟨⟨Int.tmod_nonneg _ (by omega),Int.tmod_lt_of_pos _ (by omega)⟩,by dsimp only;omega,by dsimp only;omega⟩,by dsimp only;omega⟩)
  ·exact fin k
 ·exact fin k
noncomputable def tl (b:Zj) (P:List Ya) (k p c n d:Int) (nm:List UInt8) (w:Zx) (s:Zdd):Option (ZgL×Zdd) :=
 (ZAm s (30:Int)).bind λr =>
 if r.fst=(0:Int) then
  (ZAm r.snd (7:Int)).bind λr2=>some ((r2.fst,p,c,n,d,nm,w,()),r2.snd)
 else
  if r.fst=(1:Int) then
   (ZAm r.snd (10:Int)).bind λr2=>some ((k,p,Wq (r2.fst-(1:Int)),n,d,nm,w,()),r2.snd)
  else
   if r.fst=(2:Int) then
    (ZAm r.snd (Wq ((↑(List.length (Zj.Qg b)):Int)+(2:Int)))).bind λr2=>some ((k,p,c,Wq (r2.fst-(1:Int)),d,nm,w,()),r2.snd)
   else
    if r.fst=(3:Int) then
     (ZAm r.snd (Wq ((↑(List.length P):Int)+(2:Int)))).bind λr2=>some ((k,Wq (r2.fst-(1:Int)),c,n,d,nm,w,()),r2.snd)
    else
     if r.fst=(4:Int) then
      some ((k,p,c,n,d,[(66:UInt8),(97:UInt8),(100:UInt8)],w,()),r.snd)
     else
      some ((k,p,c,n,d,nm,w,()),r.snd)
abbrev ZKy (r:ZgL×Zdd):Prop:=sm Zug r.1/\Src r.2
theorem ZHl {b:Zj} {P:List Ya} {k p c n d:Int} {nm:List UInt8} {w:Zx} {s:Zdd} (hs:Src s) (hn:nm.length<=10) (hw:sm Za9 w):ZAH (tl b P k p c n d nm w s) ZKy:=by
 have e:∀ (k p c n d:Int) (nm:List UInt8),nm.length<=10->sm Zug ((k,p,c,n,d,nm,w,()):ZgL):=λk p c n d nm h=>⟨trivial,trivial,trivial,trivial,trivial,smS (by dsimp only;omega),hw,trivial⟩;unfold tl;refine (ZAn hs 30).bind λr ⟨_,h1⟩=>?_;split
 ·exact (ZAn h1 _).bind λr2 ⟨_,h2⟩=>.ret ⟨e _ _ _ _ _ _ hn,h2⟩
 split
 ·exact (ZAn h1 _).bind λr2 ⟨_,h2⟩=>.ret ⟨e _ _ _ _ _ _ hn,h2⟩
 split
 ·exact (ZAn h1 _).bind λr2 ⟨_,h2⟩=>.ret ⟨e _ _ _ _ _ _ hn,h2⟩
 split
 ·exact (ZAn h1 _).bind λr2 ⟨_,h2⟩=>.ret ⟨e _ _ _ _ _ _ hn,h2⟩
 split
 ·exact .ret ⟨e _ _ _ _ _ _ (by show 3<=10;omega),h1⟩
 ·exact .ret ⟨e _ _ _ _ _ _ hn,h1⟩
abbrev ZK6:Zx:=(([]:List Int),([]:List Int),([]:List Int),([]:List Int),())
theorem ZHh:sm Za9 ZK6:=ZDz
noncomputable def kd1 (b:Zj) (P:List Ya) (s:Zdd):Option (ZgL×Zdd) :=
 (ZAm s (↑(List.length (Zg.Instances (Zj.Design b))):Int)).bind λl01Next1 =>
 (atI (Zg.Instances (Zj.Design b)) l01Next1.fst).bind λx0 =>
 (ZDt (Zj.Design b) l01Next1.fst (Wq ((↑(List.length (Zl.X7 x0)):Int)-(1:Int)))).bind λl05Find0 =>
 (atI ([(1:Int),(0:Int),(3:Int),(2:Int),(4:Int),(6:Int),(5:Int),(7:Int)]) (Int.tmod (Zl.Cell x0) (8:Int))).bind λx1 =>
 tl b P 1 l05Find0 x1 0 0 [] ZK6 l01Next1.snd
noncomputable def kd2 (b:Zj) (P:List Ya) (s:Zdd):Option (ZgL×Zdd) :=
 (ZAI s b).bind λl08DrawSink0 =>
 (ZAm l08DrawSink0.snd (2:Int)).bind λl01Next1 =>
 (ZAm l01Next1.snd (3:Int)).bind λl01Next2 =>
 (Zaw l01Next2.fst).bind λl01Number0 =>
 Zp ((↑(List.length [(120:UInt8)]):Int)+(↑(List.length l01Number0):Int)<=(9223372036854775807:Int)) <|
 tl b P 2 l08DrawSink0.fst l01Next1.fst 0 0 ([(120:UInt8)]++l01Number0) ZK6 l01Next2.snd
noncomputable def kd4 (b:Zj) (P:List Ya) (s:Zdd):Option (ZgL×Zdd) :=
 (ZAI s b).bind λl08DrawSink0 =>
 (ZAm l08DrawSink0.snd (↑(List.length (Zj.Qg b)):Int)).bind λl01Next1 =>
 (atI (Zj.Qg b) l01Next1.fst).bind λx0 =>
 (ZAm l01Next1.snd (↑(List.length (Zx.Parent x0)):Int)).bind λl01Next2 =>
 tl b P 4 l08DrawSink0.fst 0 l01Next1.fst l01Next2.fst [] ZK6 l01Next2.snd
noncomputable def kd5 (b:Zj) (P:List Ya) (s:Zdd):Option (ZgL×Zdd) :=
 (ZAm s (↑(List.length (Zj.Qg b)):Int)).bind λl01Next1 =>
 (Zc8 (Zj.Design b) l01Next1.fst).bind λl05Sinks0 =>
 (ZA1 l01Next1.snd (↑(List.length l05Sinks0):Int)).bind λl07DrawWire0 =>
 tl b P 5 0 0 l01Next1.fst 0 [] l07DrawWire0.fst l07DrawWire0.snd
theorem ZGV {s:Zdd} (hs:Src s) {b:Zj} (hb:ZKV b):ZAH (ZDu s b) ZKy:=by
 obtain ⟨hsm,hdn⟩:=hb;unfold ZDu;rw[Zgs b hsm,Bq];have un:ZAH (some (((3:Int),(0:Int),(0:Int),(0:Int),(0:Int),([]:List UInt8),(([]:List Int),([]:List Int),([]:List Int),([]:List Int),()),()),s)) ZKy :=
  .ret ⟨⟨trivial,trivial,trivial,trivial,trivial,smS (by simp),ZHh,trivial⟩,hs⟩
 refine ZAH.ite (λhB=>?_) (λ_=>un);have hB:ZdN b:=⟨(QM _).1 hB,hsm⟩;refine ZAH.ite (λ_=>un) (λhw=>?_);have hf:=hB.ok.1.few;have hwl:1<=(Zj.Qg b).length:=by omega
 have hD:=hdn hB.ok (by grind);have hi:=hD.insts;have hne:1<=(Zw (Zj.Design b)).length:=by
  have hx:=List.getElem?_eq_getElem (show 0<(Zg.Instances (Zj.Design b)).length by omega);generalize (Zg.Instances (Zj.Design b))[0]=x at hx;obtain ⟨_,⟨c,hc,hcl⟩,_⟩:=hB.ok.1.2.2.1 x (List.mem_of_getElem? hx);have hc:(Zt.Cells (Zj.Library b))[(Zl.Cell x).toNat]?=some c:=hc;have h2:2<=(Zk.Yz c).length:=(hB.ok.1.1.2.1 c (List.mem_of_getElem? hc)).2.1.1;have hn:=List.getElem?_eq_getElem (show 0<(Zl.X7 x).length by omega);have:=(List.getElem?_eq_some_iff.1 (ZDs hx hn)).1;omega
 rw[QA _ hf,Bq];have g1:∀ s',Src s'->ZAH (kd1 b (Zw (Zj.Design b)) s') ZKy:=λs' h=>by
  unfold kd1;refine (ZAn h _).bind λr1 ⟨⟨a0,a1⟩,h1⟩=>?_;refine .at a0 (by omega) λx hx _=>?_;obtain ⟨⟨c0,_⟩,_⟩:=hB.ok.1.2.2.1 x hx;refine (ZJD hf _ _).bind λf _=>?_;have t0:=Int.tmod_nonneg (a:=Zl.Cell x) 8 c0;have t1:=Int.tmod_lt_of_pos (Zl.Cell x) (show (0:Int)<8 by omega);refine .at t0 (by grind) λy _ _=>?_;exact ZHl h1 (by simp) ZHh
 have g2:∀ s',Src s'->ZAH (kd2 b (Zw (Zj.Design b)) s') ZKy:=λs' h=>by
  unfold kd2;refine (ZIi h hf hne).bind λr0 h0=>?_;refine (ZAn h0 2).bind λr1 ⟨_,h1⟩=>?_;refine (ZAn h1 3).bind λr2 ⟨⟨a0,a1⟩,h2⟩=>?_;refine (ZFR a0 (by omega)).bind λnm hnm=>?_;refine .guard (by grind) ?_;exact ZHl h2 (by grind) ZHh
 have g3:∀ s',Src s'->ZAH (tl b (Zw (Zj.Design b)) 3 0 0 0 0 [] ZK6 s') ZKy:=λs' h=>ZHl h (by simp) ZHh;have g4:∀ s',Src s'->ZAH (kd4 b (Zw (Zj.Design b)) s') ZKy:=λs' h=>by
  unfold kd4;refine (ZIi h hf hne).bind λr0 h0=>?_;refine (ZAn h0 _).bind λr1 ⟨⟨a0,a1⟩,h1⟩=>?_;refine .at a0 (by omega) λx hx _=>?_;refine (ZAn h1 _).bind λr2 ⟨_,h2⟩=>?_;exact ZHl h2 (by simp) ZHh
 have g5:∀ s',Src s'->ZAH (kd5 b (Zw (Zj.Design b)) s') ZKy:=λs' h=>by
  unfold kd5;refine (ZAn h _).bind λr1 ⟨_,h1⟩=>?_;rw[ZkH _ _ hf,Bq];have hsl:(Zhl (Zj.Design b) r1.1).length<=78:=Nat.le_trans (Zl2 r1.1 (Zw (Zj.Design b)) 0) (V9 hf);refine (ZIo h1 (k:=((Zhl (Zj.Design b) r1.1).length:Int)) (by omega) (by omega)).bind λr2 ⟨hw,h2⟩=>?_;exact ZHl h2 (by simp) hw.sm
 refine (ZAn hs 8).bind λr ⟨_,h1⟩=>?_;repeat' first
  | exact g1 _ h1
  | exact g2 _ h1
  | exact g3 _ h1
  | exact g4 _ h1
  | exact g5 _ h1
  | refine ZAH.ite (λ_=>?_) (λ_=>?_)
theorem ZCe.net {b:Zj} {e:ZgL} (h:ZCe b e):1<=(Zg.X7 (Zj.Design b)).length:=by
 have hB:=h.blk;have at_:∀ {n:Int},ZnY (Zj.Design b) n->1<=(Zg.X7 (Zj.Design b)).length:=λ{n} hn=>by
  have:=hn.1;have:=hn.2;omega
 by_cases k1:ZgL.Kind e=1
 ·obtain ⟨p,x,c,c2,hp,_⟩:=h.poss.1 k1
  exact at_ (Zol hB.ok.1 hp.mem)
 by_cases k2:ZgL.Kind e=2
 ·obtain ⟨p,c,hp,_⟩:=h.poss.2.1 k2
  exact at_ (Zol hB.ok.1 hp.mem)
 by_cases k3:ZgL.Kind e=3
 ·obtain ⟨x,c,w,m,hn,hx,_,_,_,_,hm,_⟩:=h.poss.2.2.1 k3
  obtain ⟨_,_,hnet⟩:=hB.ok.1.2.2.1 x (List.mem_of_getElem? hx);exact at_ (hnet m (List.mem_of_getElem? (show (Zl.X7 x)[0]?=some m from hm)))
 by_cases k4:ZgL.Kind e=4
 ·obtain ⟨p,hp,_⟩:=h.poss.2.2.2.1 k4
  exact at_ (Zol hB.ok.1 hp.mem)
 ·have k5:ZgL.Kind e=5:=by have:=h.blank;unfold Blank at this;omega
  exact at_ (h.range.2.2 k5)
theorem ZFs {b:Zj} {e:ZgL} (h:ZCe b e) (he:sm Zug e) {r:Zj} (hr:ZAp e b=some r):ZBl b e=some 0/\ZDc b e=some (r,0):=by
 have e1:ZBl b e=some 0:=by
  unfold ZBl;rw[Zlh b h.blk.sm,Bq,if_pos (Yf h.blk.ok),(ZKb h he).1];rfl
 refine ⟨e1,?_⟩;unfold ZDc;grind
theorem bytesD {code:List Int} (hb:bnd (.sl (.int .u8)) code):∀ x∈code,0<=x/\x<=255:=λx hx=>hb.2 x hx
def ZI0 (s:ZdQ):Prop:=sm Zth s/\ZKV (ZdQ.Block s)
theorem ZF0 {b r:Zj} {e:ZgL} (hb:ZKV b) (hC:ZCe b e) (he:sm Zug e) (hr:ZAp e b=some r) (h3:ZdN r):ZKV r:=by
 have hw:=hC.blk.ok.2.1;have hn:=hC.net;exact ⟨h3.sm,λ_ _=>ZJ7 hC he (hb.2 hC.blk.ok (by grind)) hr⟩
theorem ZFf:ZI0 ZK5:=⟨ZKr,ZIX,λ_ h=>absurd rfl h⟩
theorem ZJW {s:ZdQ} (hs:ZI0 s):ZAH (ZDk s) (λr=>ZI0 r.1):=by
 obtain ⟨h1,h2,h3,h4⟩:=ZFV hs.1;obtain ⟨c,c1,c2,c3⟩:=ZFc s hs.1;unfold ZDk;rw[c2,Bq];cases c
 ·exact .ret ZFf
 ·obtain ⟨hS,u,w,ru,rw_⟩:=c3 rfl
  rw[if_pos rfl];refine ZAH.ite (λ_=>.ret ZFf) (λhz=>?_);have hx:(ZdQ.Zyu s)[0]?=some ((ZdQ.Zyu s)[0]'(by omega)):=List.getElem?_eq_getElem (by omega);generalize (ZdQ.Zyu s)[0]'(by omega)=x at hx;have hB:ZdN (ZdQ.Block s):=⟨hS.1,h1⟩;have hxs:sm Zug x:=ZeM h3 hx;obtain ⟨hC,hc0,hq⟩:=ZIO hB h2 hS.2 h3 hx ru;obtain ⟨r,y,r1,r3,r4,y2,r5,r6,r7⟩:=ZDw hC hxs hc0 h2 hS.2;obtain ⟨y1,y3⟩:=ZHL hC y2;have hx0:atI (ZdQ.Zyu s) (0:Int)=some x:=hx;rw[hx0,Bq,r6 (hq r r1),Bq,ZIg h3,Bq,ZF7 h4,Bq];exact .ret ⟨⟨r3.sm,ZFG h2,ZJT h3,ZHU y3 h4,trivial⟩,ZF0 hs.2 hC hxs r1 r3⟩
theorem ZJP {s:ZdQ} (hs:ZI0 s):ZAH (ZDj s) (λr=>ZI0 r.1):=by
 obtain ⟨h1,h2,h3,h4⟩:=ZFV hs.1;obtain ⟨c,c1,c2,c3⟩:=ZFc s hs.1;unfold ZDj;rw[c2,Bq];cases c
 ·exact .ret ZFf
 ·obtain ⟨hS,u,w,ru,rw_⟩:=c3 rfl
  rw[if_pos rfl];refine ZAH.ite (λ_=>.ret ZFf) (λhz=>?_);have hx:(ZdQ.Zyt s)[0]?=some ((ZdQ.Zyt s)[0]'(by omega)):=List.getElem?_eq_getElem (by omega);generalize (ZdQ.Zyt s)[0]'(by omega)=x at hx;have hB:ZdN (ZdQ.Block s):=⟨hS.1,h1⟩;have hxs:sm Zug x:=ZeM h4 hx;obtain ⟨hC,hc0,hq⟩:=ZIO hB h2 hS.2 h4 hx rw_;obtain ⟨r,y,r1,r3,r4,y2,r5,r6,r7⟩:=ZDw hC hxs hc0 h2 hS.2;obtain ⟨y1,y3⟩:=ZHL hC y2;have hx0:atI (ZdQ.Zyt s) (0:Int)=some x:=hx;rw[hx0,Bq,r6 (hq r r1),Bq,ZF7 h3,Bq,ZIg h4,Bq];exact .ret ⟨⟨r3.sm,ZFG h2,ZHU y3 h3,ZJT h4,trivial⟩,ZF0 hs.2 hC hxs r1 r3⟩
theorem ZJt {s:ZdQ} {e:ZgL} (hs:ZI0 s) (he:sm Zug e):ZAH (ZDh s e) (λr=>ZI0 r.1):=by
 obtain ⟨h1,h2,h3,h4⟩:=ZFV hs.1;obtain ⟨c,c1,c2,c3⟩:=ZFc s hs.1;unfold ZDh;rw[c2,Bq];cases c
 ·exact .ret ZFf
 ·obtain ⟨hS,_⟩:=c3 rfl
  rw[if_pos rfl];obtain ⟨k,k1,k2,k3⟩:=ZFy (ZdQ.Block s) e h1 he;by_cases hk:k=0
  ·have hC:=k3 hk
   obtain ⟨r,y,r1,r3,r4,y2,r5,r6,r7⟩:=ZDw hC he (by rw[k2,hk]) h2 hS.2;obtain ⟨y1,y3⟩:=ZHL hC y2;by_cases q:ZBe (ZdQ.Block s) e (ZdQ.Setup s) r
   ·rw[r6 q,Bq,if_pos rfl,ZF7 h3,Bq]
    exact .ret ⟨⟨r3.sm,ZFG h2,ZHU y3 h3,⟨by show (0:Int)<=_;omega,λe he=>by cases he⟩,trivial⟩,ZF0 hs.2 hC he r1 r3⟩
   ·obtain ⟨q1,q2,q3,r7⟩:=r7 q
    rw[r7,Bq,if_neg (show ¬(5:Int)=0 by decide)];exact .ret ZFf
  ·have e2:∃ q1 q2 q3,ZAC (ZdQ.Block s) (ZdQ.Setup s) e=some (q1,q2,q3,k):=by
    unfold ZAC ZAS;rw[k2,Bq,if_neg hk,Bq,if_neg hk];exact ⟨_,_,_,rfl⟩
   obtain ⟨q1,q2,q3,e2⟩:=e2;rw[e2,Bq,if_neg hk];exact .ret ZFf
theorem ZJN {b:Zj} {s:Zo} (hb:ZKV b) (hs:sm Vh s):ZAH (ZDi b s) (λr=>ZI0 r.1):=by
 unfold ZDi;rw[Zl6 b s hb.1 hs,Bq];refine ZAH.ite (λh=>?_) (λ_=>.ret ZFf);have h:=(QM _).1 h;have hf:=h.1.1.few;have hpl:=V9 hf;have hF:=ZKd h.2;obtain ⟨f,hc⟩:=ZHr (by omega) hF;rw[ZHi hf,Bq,hc,Bq,ZHk b hb.1,Bq];exact .ret ⟨⟨hb.1,hs,⟨by show (0:Int)<=_;omega,λe he=>by cases he⟩,⟨by show (0:Int)<=_;omega,λe he=>by cases he⟩,trivial⟩,hb⟩
theorem ZLq.sm {x:Zo} (h:ZLq x):sm Vh x:=by
 obtain ⟨c0,c1,cn,i1,o1,e1,ee,k0,k1,kn⟩:=h;exact ⟨ZID (l:=Zo.Yk x) (by omega) cn,ZGi (l:=Zo.Zbb x) (by omega),ZGi (l:=Zo.Vp x) (by omega),ZIH (l:=Zo.Exceptions x) (by omega) ee,ZIF (l:=Zo.X5 x) (by omega) kn,trivial⟩
theorem ZKq {s:Zdd} (hs:Src s):ZAH (ZEE s) (λr=>ZI0 r.1/\Src r.2):=by
 unfold ZEE;refine (ZHA hs).bind λr0 ⟨hb,hx,h0⟩=>?_;have hbE:ZKV r0.1:=⟨hb.sm,λ_ _=>hb.des.dn⟩;refine (ZJN hbE hx.sm).bind λr1 h1=>?_;refine (ZAn h0 4).bind λr2 ⟨⟨a0,a1⟩,h2⟩=>?_;refine ZAH.loop (λv=>(0<=v.1/\v.1<=4)/\Src (v.2.1,v.2.2.1,v.2.2.2.1,())/\ZI0 (((v.2.2.2.2.1,()),(v.2.2.2.2.2.1,v.2.2.2.2.2.2.1,v.2.2.2.2.2.2.2.1,()),v.2.2.2.2.2.2.2.2.1,()),(v.2.2.2.2.2.2.2.2.2.1,v.2.2.2.2.2.2.2.2.2.2.1,v.2.2.2.2.2.2.2.2.2.2.2.1,v.2.2.2.2.2.2.2.2.2.2.2.2.1,v.2.2.2.2.2.2.2.2.2.2.2.2.2.1,()),v.2.2.2.2.2.2.2.2.2.2.2.2.2.2.1,v.2.2.2.2.2.2.2.2.2.2.2.2.2.2.2.1,())) (λv=>v.1.toNat) ⟨⟨a0,by dsimp only;omega⟩,h2,h1⟩ ?_;rintro ⟨n,c0,c1,c2,c3,c4,c5,c6,c7,c8,c9,c10,c11,c12,c13,c14,⟨⟩⟩ ⟨⟨n0,n1⟩,hS,hD⟩;dsimp only at n0 n1 hS hD;show ZAH (ZDN n c0 c1 c2 c3 c4 c5 c6 c7 c8 c9 c10 c11 c12 c13 c14) _;unfold ZDN;refine ZAH.ite (λhn=>?_) (λ_=>.ret (show ZI0 _/\Src _ from ⟨hD,hS⟩));have en:Wq (n-1)=n-1:=Zar (by omega) (by omega);rw[en];refine (ZAn hS 4).bind λq0 ⟨_,g0⟩=>?_;have stay:∀ {u:Zdd},Src u->ZAH (some (.inl (n-1,u.1,u.2.1,u.2.2.1,c3,c4,c5,c6,c7,c8,c9,c10,c11,c12,c13,c14,()):_ ⊕ (ZdQ×Zdd))) (Rnd (λv:Int×List Int×Int×Int×List Zk×List Zl×List (List UInt8)×List Ye×List Zx×List Zc×List Zh×List Zh×List Ze×List Zm×List ZgL×List ZgL×Unit=>(0<=v.1/\v.1<=4)/\Src (v.2.1,v.2.2.1,v.2.2.2.1,())/\ZI0 (((v.2.2.2.2.1,()),(v.2.2.2.2.2.1,v.2.2.2.2.2.2.1,v.2.2.2.2.2.2.2.1,()),v.2.2.2.2.2.2.2.2.1,()),(v.2.2.2.2.2.2.2.2.2.1,v.2.2.2.2.2.2.2.2.2.2.1,v.2.2.2.2.2.2.2.2.2.2.2.1,v.2.2.2.2.2.2.2.2.2.2.2.2.1,v.2.2.2.2.2.2.2.2.2.2.2.2.2.1,()),v.2.2.2.2.2.2.2.2.2.2.2.2.2.2.1,v.2.2.2.2.2.2.2.2.2.2.2.2.2.2.2.1,())) (λv=>v.1.toNat) n.toNat (λr:ZdQ×Zdd=>ZI0 r.1/\Src r.2)):=λ{u} hu =>
  .ret ⟨⟨⟨by dsimp only;omega,by dsimp only;omega⟩,hu,hD⟩,by dsimp only;omega⟩
 refine ZAH.ite (λ_=>?_) (λ_=>ZAH.ite (λ_=>?_) (λ_=>?_))
 ·refine (ZJW hD).bind λq1 g1=>?_
  refine ZAH.ite (λ_=>?_) (λ_=>stay g0);exact .ret ⟨⟨⟨by dsimp only;omega,by dsimp only;omega⟩,g0,g1⟩,by dsimp only;omega⟩
 ·refine (ZJP hD).bind λq1 g1=>?_
  refine ZAH.ite (λ_=>?_) (λ_=>stay g0);exact .ret ⟨⟨⟨by dsimp only;omega,by dsimp only;omega⟩,g0,g1⟩,by dsimp only;omega⟩
 ·refine (ZGV g0 hD.2).bind λq1 ⟨he,g1⟩=>?_
  refine (ZJt hD he).bind λq2 g2=>?_;refine ZAH.ite (λ_=>?_) (λ_=>stay g1);exact .ret ⟨⟨⟨by dsimp only;omega,by dsimp only;omega⟩,g1,g2⟩,by dsimp only;omega⟩
theorem ZFx {code:List Int} (hb:bnd (.sl (.int .u8)) code) (hl:code.length<=4096):ZAH (ZCi code) (λr=>sm Xz r.1/\sm Zug r.2.1/\sm Vh r.2.2):=by
 unfold ZCi;refine (ZJE (bytesD hb) hl).bind λs hs=>?_;refine (ZKq hs).bind λr0 ⟨hD,h0⟩=>?_;refine (ZAn h0 12).bind λr1 ⟨_,h1⟩=>?_;refine ZAH.ite (λ_=>?_) (λ_=>?_)
 ·refine (ZJ6 h1).bind λr2 ⟨_,⟨hx,_⟩,h2⟩=>?_
  refine (ZGV h2 hD.2).bind λr3 ⟨he,_⟩=>?_;exact .ret ⟨hD.2.1,he,hx⟩
 ·refine (ZGV h1 hD.2).bind λr3 ⟨he,_⟩=>?_
  exact .ret ⟨hD.2.1,he,hD.1.2.1⟩
theorem ZK0 {α:Type} {l:List α} {i:Int} {x:α} (h:atI l i=some x):0<=i/\l[i.toNat]?=some x:=by
 unfold atI at h;by_cases q:0<=i
 ·rw[if_pos q] at h;exact ⟨q,h⟩
 ·rw[if_neg q] at h;cases h
theorem setLike {l:List Pl} {k0:Nat} {p0:Pl} (h0:l[k0]?=some p0) (n:Int) {k:Nat} {p:Pl} (hp:l[k]?=some p):∃ p',(l.set k0 (p0.1,p0.2.1,n,p0.2.2.2.1,()))[k]?=some p'/\p'.1=p.1:=by
 by_cases e:k0=k
 ·subst e
  rw[h0] at hp;injection hp with hp
  subst hp;exact ⟨_,List.getElem?_set_self (List.getElem?_eq_some_iff.1 h0).1,rfl⟩
 ·exact ⟨p,by rw[List.getElem?_set_ne e];exact hp,rfl⟩
theorem ZJ4 {b r:Zj} {e:ZgL} (h:ZCe b e) (he:sm Zug e) (hr:ZAp e b=some r) {k:Nat} {p:Pl} (hp:(Zw (Zj.Design b))[k]?=some p) (h0:0<=ZFJ b e k p) :
  (∃ p',(Zw (Zj.Design r))[(ZFJ b e k p).toNat]?=some p'/\p'.1=p.1)/\(ZgL.Kind e=2->(Zg.Instances (Zj.Design r)).length=(Zg.Instances (Zj.Design b)).length+1):=by
 have hB:=h.blk;have hport:=ZEK hp;have htwo:=ZC1 (Zj.Design b);by_cases k1:ZgL.Kind e=1
 ·obtain ⟨p0,x,c,c2,hp0,h00,_,hx,hc,hc2,ha⟩:=h.poss.1 k1
  have hx2:(Zg.Instances (Zj.Design b))[p0.1.toNat]?=some x:=(ZK0 hx).2;rw[app1 hB k1 hp0 h00 hx2] at hr;injection hr with hr
  subst hr;have ed:Zj.Design (ZDa b p0.1 (ZgL.Cell e))=((Zg.Instances (Zj.Design b)).set p0.1.toNat (Zl.Name x,ZgL.Cell e,Zl.X7 x,()),Zg.X7 (Zj.Design b),Zg.Xb (Zj.Design b),()):=by
   unfold ZDa;rw[hx2]
  rw[ed,ZE0 (by omega) (λq=>by have:=q.1;omega),Int.toNat_natCast];exact ⟨⟨p,by rw[ZDW hx2];exact hp,rfl⟩,λq=>absurd q (by omega)⟩
 by_cases k2:ZgL.Kind e=2
 ·obtain ⟨p0,c,hp0,hd,_⟩:=h.poss.2.1 k2
  rw[app2 h k2 (ZEN he).1 hp0 hd] at hr;injection hr with hr
  subst hr;show (∃ p',(Zw (ZDS b e p0))[(ZFJ b e k p).toNat]?=some p'/\p'.1=p.1)/\(ZgL.Kind e=2->(Zg.Instances (ZDS b e p0)).length=_);refine ⟨?_,λ_=>?_⟩
  ·have hadd:(Zw (ZAJ (Zj.Design b) (ZEk b e p0) (ZgL.Name e)))[(ZFJ b e k p).toNat]?=some p:=by
    by_cases q:p.1<0
    ·rw[ZH2 k2 q,show ((k:Int)+2).toNat=k+(Zl.X7 (ZEk b e p0)).length by show _=k+2;omega,ZE4 (by have:=hport.1.1 q;omega)]
     exact hp
    ·rw[ZE0 (by omega) (λz=>q z.2),Int.toNat_natCast,ZFq (Nat.lt_of_not_le λz=>q (hport.1.2 (by omega)))]
     exact hp
   obtain ⟨p',e1,e2⟩:=setLike (ZDr (q:=p0) hB hp0.2) ((Zg.X7 (Zj.Design b)).length:Int) hadd;exact ⟨p',by rw[ZDX hp0.2,ZAD (ZDr (q:=p0) hB hp0.2)];exact e1,e2⟩
  ·show (Zg.Instances (ZAE (Zj.Design b) p0.1 p0.2.1 _)++[ZEk b e p0]).length=_
   rw[List.length_append,ZAA];rfl
 by_cases k3:ZgL.Kind e=3
 ·have hL:=h.poss.2.2.1 k3
  obtain ⟨k',p0,m,hs,hp0,hpi,hm,ha3⟩:=app3 hB hL k3;rw[ha3] at hr;injection hr with hr
  subst hr;refine ⟨?_,λq=>absurd q k2⟩;obtain ⟨hn,x,hx,hl2⟩:=hL.two;have hn2:0<(Zg.Instances (ZAE (Zj.Design b) p0.1 p0.2.1 m)).length:=by rw[ZAA];exact hn
  have hx4:(Zg.Instances (ZAE (Zj.Design b) p0.1 p0.2.1 m))[(Zg.Instances (ZAE (Zj.Design b) p0.1 p0.2.1 m)).length-1]?=some ((Zg.Instances (ZAE (Zj.Design b) p0.1 p0.2.1 m))[(Zg.Instances (ZAE (Zj.Design b) p0.1 p0.2.1 m)).length-1]'(by omega)):=List.getElem?_eq_getElem _;generalize (Zg.Instances (ZAE (Zj.Design b) p0.1 p0.2.1 m))[(Zg.Instances (ZAE (Zj.Design b) p0.1 p0.2.1 m)).length-1]'(by omega)=x' at hx4;obtain ⟨y,hy,_,_,hyl,_⟩:=ZDb hx4;rw[ZAA,hx] at hy;injection hy with hy
  have hx2:(Zl.X7 x').length=2:=by rw[hyl,<-hy,hl2]
  have h5:=ZDZ hn2 hx4 (by rw[hyl,<-hy,hl2]);have h6:=ZDQ hp0 m;show ∃ p',(Zw (ZAy (ZAE (Zj.Design b) p0.1 p0.2.1 m)))[(ZFJ b e k p).toNat]?=some p'/\p'.1=p.1;have hlast:¬p.1<0->(p.1=((Zg.Instances (Zj.Design b)).length:Int)-1<->(Zw (Zj.Design b)).length<=k+(Zg.Xb (Zj.Design b)).length+(Zl.X7 x).length):=λq=>ZHz hn hx hp (by omega);have hnl:¬p.1<0->¬p.1=((Zg.Instances (Zj.Design b)).length:Int)-1:=λq z=>by
   rw[ZIL k3 q z] at h0;omega
  obtain ⟨p',e1,e2⟩:=setLike hp0 m hp;rw[<-ZAD hp0 m,ZEn (s:=[]) hn2 hx4] at e1;by_cases q:p.1<0
  ·have hk:=hport.1.1 q
   refine ⟨p',?_,e2⟩;rw[ZHt k3 q,show ((k:Int)-2).toNat=k-2 by omega];have:=ZE4 (d:=ZAy (ZAE (Zj.Design b) p0.1 p0.2.1 m)) (x:=x') (s:=[]) (k:=k-2) (by omega);rw[hx2,show k-2+2=k by omega] at this;rw[<-this];exact e1
  ·have hl:=hlast q
   have hno:=hnl q;refine ⟨p',?_,e2⟩;rw[ZH3 k3 q hno,Int.toNat_natCast];rw[<-ZFq (d:=ZAy (ZAE (Zj.Design b) p0.1 p0.2.1 m)) (x:=x') (s:=[]) (k:=k) (by
    have:¬(Zw (Zj.Design b)).length<=k+(Zg.Xb (Zj.Design b)).length+(Zl.X7 x).length:=λz=>hno (hl.2 z);omega)]
   exact e1
 have k23:¬(ZgL.Kind e=2/\p.1<0):=λq=>k2 q.1;refine ⟨?_,λq=>absurd q k2⟩;by_cases k4:ZgL.Kind e=4
 ·obtain ⟨p0,hp0,hd,_⟩:=h.poss.2.2.2.1 k4
  rw[app4 hB k4 hp0 hd (h.range.2.1 k4).2.1] at hr;injection hr with hr
  subst hr;rw[ZE0 k3 k23,Int.toNat_natCast];show ∃ p',(Zw (ZAE (Zj.Design b) p0.1 p0.2.1 (ZgL.Net e)))[k]?=some p'/\p'.1=p.1;rw[ZAD hp0.2];exact setLike hp0.2 _ hp
 ·have k5:ZgL.Kind e=5:=by have:=h.blank;unfold Blank at this;omega
  rw[ZLh hB k5 (h.range.2.2 k5) (ZEN he).2] at hr;injection hr with hr
  subst hr;rw[ZE0 k3 k23,Int.toNat_natCast];exact ⟨p,hp,rfl⟩
theorem ZKg {b:Zj} {e f:ZgL} (hi:ZAr e b=some f) :
  (ZgL.Kind e=2->ZgL.Kind f=3)/\(ZgL.Kind e=3->ZgL.Kind f=2)/\(ZgL.Kind e≠2->ZgL.Kind e≠3->ZgL.Kind f≠2/\ZgL.Kind f≠3):=by
 unfold ZAr at hi;by_cases k1:ZgL.Kind e=1
 ·rw[if_pos k1] at hi
  obtain ⟨_,_,hi⟩:=Option.bind_eq_some_iff.1 hi;obtain ⟨_,_,hi⟩:=Option.bind_eq_some_iff.1 hi;obtain ⟨_,_,hi⟩:=Option.bind_eq_some_iff.1 hi;have e0:ZgL.Kind f=1:=by rw[<-Option.some.inj hi]
  omega
 rw[if_neg k1] at hi;by_cases k2:ZgL.Kind e=2
 ·rw[if_pos k2] at hi
  have e0:ZgL.Kind f=3:=by rw[<-Option.some.inj hi]
  omega
 rw[if_neg k2] at hi;by_cases k3:ZgL.Kind e=3
 ·rw[if_pos k3] at hi
  obtain ⟨_,_,hi⟩:=Option.bind_eq_some_iff.1 hi;obtain ⟨_,_,hi⟩:=Option.bind_eq_some_iff.1 hi;obtain ⟨_,_,hi⟩:=Option.bind_eq_some_iff.1 hi;obtain ⟨_,_,hi⟩:=Option.bind_eq_some_iff.1 hi;have e0:ZgL.Kind f=2:=by rw[<-Option.some.inj hi]
  omega
 rw[if_neg k3] at hi;by_cases k4:ZgL.Kind e=4
 ·rw[if_pos k4] at hi
  obtain ⟨_,_,hi⟩:=Option.bind_eq_some_iff.1 hi;obtain ⟨_,_,hi⟩:=Option.bind_eq_some_iff.1 hi;obtain ⟨_,_,hi⟩:=Option.bind_eq_some_iff.1 hi;have e0:ZgL.Kind f=4:=by rw[<-Option.some.inj hi]
  omega
 ·rw[if_neg k4] at hi
  obtain ⟨_,_,hi⟩:=Option.bind_eq_some_iff.1 hi;obtain ⟨_,_,hi⟩:=Option.bind_eq_some_iff.1 hi;have e0:ZgL.Kind f=5:=by rw[<-Option.some.inj hi]
  omega
theorem ZJ3 {b r:Zj} {e f:ZgL} (h:ZCe b e) (he:sm Zug e) (hr:ZAp e b=some r) (hi:ZAr e b=some f) {k:Nat} {p:Pl} (hp:(Zw (Zj.Design b))[k]?=some p) (h0:0<=ZFJ b e k p) :
  ∃ p',(Zw (Zj.Design r))[(ZFJ b e k p).toNat]?=some p'/\ZFJ r f (ZFJ b e k p).toNat p'=(k:Int):=by
 obtain ⟨⟨p',hp',e1⟩,hlen⟩:=ZJ4 h he hr hp h0;obtain ⟨i2,i3,i0⟩:=ZKg hi;refine ⟨p',hp',?_⟩;have hlt:=ZGM hp (.inr trivial);by_cases k2:ZgL.Kind e=2
 ·have hl:=hlen k2
  by_cases q:p.1<0
  ·rw[ZHt (i2 k2) (by omega),ZH2 k2 q];omega
  ·rw[ZH3 (i2 k2) (by omega) (by omega),ZE0 (by omega) (λz=>q z.2)];omega
 by_cases k3:ZgL.Kind e=3
 ·by_cases q:p.1<0
  ·rw[ZHt k3 q] at h0
   rw[ZH2 (i3 k3) (by omega),ZHt k3 q];omega
  ·by_cases q2:p.1=((Zg.Instances (Zj.Design b)).length:Int)-1
   ·rw[ZIL k3 q q2] at h0;omega
   ·have:=i3 k3
    rw[ZE0 (b:=r) (by omega) (λz=>by omega),ZH3 k3 q q2];omega
 ·obtain ⟨j2,j3⟩:=i0 k2 k3
  rw[ZE0 (b:=r) j3 (λz=>j2 z.1),ZE0 k3 (λz=>k2 z.1)];omega
theorem ZJg {b:Zj} {e:ZgL} {k:Nat} {p:Pl} (hp:(Zw (Zj.Design b))[k]?=some p):ZAQ (after b e) (k:Int)=ZFJ b e k p:=by
 have:(after b e)[k]?=some (ZFJ b e k p):=by
  unfold after;rw[ZCf,hp,Nat.zero_add];rfl
 unfold ZAQ;rw[Int.toNat_natCast,this];rfl
theorem ZJF {b r:Zj} {e f:ZgL} (h:ZCe b e) (he:sm Zug e) (hr:ZAp e b=some r) (hi:ZAr e b=some f) {q:Int} (h0:0<=q) (h1:q<((Zw (Zj.Design b)).length:Int)) (h2:0<=ZAQ (after b e) q) :
  ZAQ (after r f) (ZAQ (after b e) q)=q:=by
 obtain ⟨k,rfl⟩:∃ k:Nat,q=(k:Int):=⟨q.toNat,by omega⟩;have hp:(Zw (Zj.Design b))[k]?=some ((Zw (Zj.Design b))[k]'(by omega)):=List.getElem?_eq_getElem _;generalize (Zw (Zj.Design b))[k]'(by omega)=p at hp;rw[ZJg hp] at h2 ⊢;obtain ⟨p',hp',e1⟩:=ZJ3 h he hr hi hp h2;have:=ZJg (e:=f) hp';rw[show (((ZFJ b e k p).toNat:Nat):Int)=ZFJ b e k p by omega] at this;rw[this,e1]
theorem ZER {α:Type} {l:List α} {f g:α->α} (h:∀ x∈l,g (f x)=x):(l.map f).map g=l:=by
 rw[List.map_map];have:l.map (g∘f)=l.map id:=List.map_congr_left λx hx=>h x hx;rw[this,List.map_id]
theorem ZJm {b r:Zj} {e f:ZgL} (h:ZCe b e) (he:sm Zug e) (hr:ZAp e b=some r) (hi:ZAr e b=some f) {s:Zo} (hF:ZH1 (Zw (Zj.Design b)).length s) (hS:SOk (after b e) s) :
  ZFZ (after r f) (ZFZ (after b e) s)=s/\SOk (after r f) (ZFZ (after b e) s):=by
 obtain ⟨⟨⟨⟨_,s1⟩,s2⟩,s3⟩,s4⟩:=hS;have gb:=λq h0 h1 h2=>ZJF h he hr hi (q:=q) h0 h1 h2;have c1:∀ c∈Zo.Yk s,ZAQ (after r f) (ZAQ (after b e) (Zc.Place c))=Zc.Place c:=λc hc=>gb _ (hF.clocks c hc).1 (hF.clocks c hc).2 (s1 c hc);have c2:∀ c∈Zo.Zbb s,ZAQ (after r f) (ZAQ (after b e) (Zh.Place c))=Zh.Place c:=λc hc=>gb _ (hF.ins c hc).1 (hF.ins c hc).2 (s2 c hc);have c3:∀ c∈Zo.Vp s,ZAQ (after r f) (ZAQ (after b e) (Zh.Place c))=Zh.Place c:=λc hc=>gb _ (hF.outs c hc).1 (hF.outs c hc).2 (s3 c hc);have cl:∀ l,Zna (Zw (Zj.Design b)).length l->LOk (after b e) l->∀ q∈l,ZAQ (after r f) (ZAQ (after b e) q)=q:=λl hl hk q hq=>by
  obtain ⟨k,hkq⟩:=List.mem_iff_getElem?.1 hq;obtain ⟨a0,a1⟩:=ZIe hl hkq;exact gb q a0 a1 (hk k q hkq)
 have cl2:∀ l,Zna (Zw (Zj.Design b)).length l->LOk (after b e) l->LOk (after r f) (ZI2 (after b e) l):=λl hl hk=>by
  intro k x hx;unfold ZI2 at hx;rw[List.getElem?_map,Option.map_eq_some_iff] at hx;obtain ⟨q,hq,rfl⟩:=hx;rw[cl l hl hk q (List.mem_of_getElem? hq)];exact (ZIe hl hq).1
 refine ⟨?_,⟨⟨⟨trivial,?_⟩,?_⟩,?_⟩,?_⟩
 ·have e1:((Zo.Yk s).map (ZIu (after b e))).map (ZIu (after r f))=Zo.Yk s:=ZER λc hc=>by
   show (Zc.Name c,ZAQ (after r f) (ZAQ (after b e) (Zc.Place c)),c.2.2)=c;rw[c1 c hc]
  have e2:((Zo.Zbb s).map (ZE5 (after b e))).map (ZE5 (after r f))=Zo.Zbb s:=ZER λc hc=>by
   show (ZAQ (after r f) (ZAQ (after b e) (Zh.Place c)),c.2)=c;rw[c2 c hc]
  have e3:((Zo.Vp s).map (ZE5 (after b e))).map (ZE5 (after r f))=Zo.Vp s:=ZER λc hc=>by
   show (ZAQ (after r f) (ZAQ (after b e) (Zh.Place c)),c.2)=c;rw[c3 c hc]
  have e4:((Zo.Exceptions s).map (ZIs (after b e))).map (ZIs (after r f))=Zo.Exceptions s:=ZER λc hc=>by
   obtain ⟨p1,p2,p3⟩:=hF.excs c hc;obtain ⟨o1,o2,o3⟩:=s4 c hc;show (Ze.Kind c,Ze.Value c,((Ze.From c).map (ZAQ (after b e))).map (ZAQ (after r f)),((Ze.Through c).map (ZAQ (after b e))).map (ZAQ (after r f)),((Ze.To c).map (ZAQ (after b e))).map (ZAQ (after r f)),())=c;rw[ZER (cl _ p1 o1),ZER (cl _ p2 o2),ZER (cl _ p3 o3)]
  show (((Zo.Yk s).map (ZIu (after b e))).map (ZIu (after r f)),((Zo.Zbb s).map (ZE5 (after b e))).map (ZE5 (after r f)),((Zo.Vp s).map (ZE5 (after b e))).map (ZE5 (after r f)),((Zo.Exceptions s).map (ZIs (after b e))).map (ZIs (after r f)),Zo.X5 s,())=s;rw[e1,e2,e3,e4]
 ·intro c hc
  obtain ⟨y,hy,rfl⟩:=List.mem_map.1 (show c∈(Zo.Yk s).map (ZIu (after b e)) from hc);show 0<=ZAQ (after r f) (ZAQ (after b e) (Zc.Place y));rw[c1 y hy];exact (hF.clocks y hy).1
 ·intro c hc
  obtain ⟨y,hy,rfl⟩:=List.mem_map.1 (show c∈(Zo.Zbb s).map (ZE5 (after b e)) from hc);show 0<=ZAQ (after r f) (ZAQ (after b e) (Zh.Place y));rw[c2 y hy];exact (hF.ins y hy).1
 ·intro c hc
  obtain ⟨y,hy,rfl⟩:=List.mem_map.1 (show c∈(Zo.Vp s).map (ZE5 (after b e)) from hc);show 0<=ZAQ (after r f) (ZAQ (after b e) (Zh.Place y));rw[c3 y hy];exact (hF.outs y hy).1
 ·intro c hc
  obtain ⟨y,hy,rfl⟩:=List.mem_map.1 (show c∈(Zo.Exceptions s).map (ZIs (after b e)) from hc);obtain ⟨p1,p2,p3⟩:=hF.excs y hy;obtain ⟨o1,o2,o3⟩:=s4 y hy;exact ⟨cl2 _ p1 o1,cl2 _ p2 o2,cl2 _ p3 o3⟩
theorem ZAk:10 ^ (9+1)=10000000000:=by decide
theorem digit_eq {u:Nat} (h:u<10):bytesOf [IntKind.wrap IntKind.u8 (Wq ((48:Int)+(u:Int)))]=[UInt8.ofNat (48+u)]:=by
 rw[Zar (by omega) (by omega)];have e:IntKind.wrap IntKind.u8 ((48:Int)+(u:Int))=((48+u:Nat):Int):=by
  have:IntKind.wrap IntKind.u8 ((48:Int)+(u:Int))=((48:Int)+(u:Int)) % 256:=rfl;rw[this];omega
 rw[e];rfl
theorem Zk5 {u:Nat} (h:u<10):Go.Lib.decDigits u=[UInt8.ofNat (48+u)]:=by rw[Go.Lib.decDigits,dif_pos h]
theorem ZoM {u:Nat} (h:¬u<10):Go.Lib.decDigits u=Go.Lib.decDigits (u / 10)++[UInt8.ofNat (48+u % 10)]:=by rw[Go.Lib.decDigits,dif_neg h]
theorem Zk4:∀ (k u:Nat),u<10 ^ (k+1)->(Go.Lib.decDigits u).length<=k+1
 | 0,u,h=>by rw[Zk5 (by simpa using h)];simp
 | k+1,u,h=>by
  by_cases c:u<10
  ·rw[Zk5 c];simp
  ·rw[ZoM c,List.length_append]
   have:=Zk4 k (u / 10) (by rw[Nat.pow_succ] at h;omega);simp;omega
def NumIn (n:Int):Prop:=-1000000000<=n/\n<=1000000000
theorem ZiP {n:Int} (h:NumIn n):(Go.Lib.itoa n).length<=11:=by
 obtain ⟨h0,h1⟩:=h;unfold Go.Lib.itoa;split
 ·have:=Zk4 9 n.natAbs (by rw[ZAk];omega)
  simp only[List.length_cons];omega
 ·have:=Zk4 9 n.toNat (by rw[ZAk];omega)
  omega
theorem Zu2 (u:Nat):Int.tdiv (u:Int) 10=((u / 10:Nat):Int):=by rw[Int.tdiv_eq_ediv_of_nonneg (by omega)];omega
theorem ZvP (u:Nat):Int.tmod (u:Int) 10=((u % 10:Nat):Int):=by rw[Int.tmod_eq_emod_of_nonneg (by omega)];omega
theorem ZnC:∀ (k u:Nat),u<=1000000000->(∀ r,Y1 k (u:Int)=some r->r=Go.Lib.decDigits u)/\(u<10 ^ k->1<=k->Y1 k (u:Int)=some (Go.Lib.decDigits u)):=by
 intro k;induction k with
 | zero=>intro u _;exact ⟨λr h=>(by cases h),λ_ h=>(by omega)⟩
 | succ k ih =>
  intro u hu;by_cases c:u<10
  ·have e:Y1 (k+1) (u:Int)=some (Go.Lib.decDigits u):=by
    show YB _ _=_;unfold YB;rw[if_neg (by omega),if_pos (by omega),digit_eq c,Zk5 c]
   exact ⟨λr h=>by rw[e] at h;exact (Option.some.inj h).symm,λ_ _=>e⟩
  ·have hl:=Zk4 9 (u / 10) (by rw[ZAk];omega)
   have e:Y1 (k+1) (u:Int)=(Y1 k ((u / 10:Nat):Int)).bind λr0=>Zp ((r0.length:Int)+1<=(9223372036854775807:Int)) <| some (r0++[UInt8.ofNat (48+u % 10)]):=by
    show YB _ _=_;unfold YB;rw[if_neg (by omega),if_neg (by omega),Zu2,ZvP,digit_eq (by omega),Zar (by omega) (by omega)];rfl
   obtain ⟨i1,i2⟩:=ih (u / 10) (by omega);refine ⟨λr h=>?_,λh1 h2=>?_⟩
   ·rw[e] at h
    obtain ⟨r0,h0,h⟩:=Option.bind_eq_some_iff.1 h;have:=i1 r0 h0;subst this;rw[Zd (by omega)] at h;rw[ZoM c];exact (Option.some.inj h).symm
   ·have hk:1<=k:=by
     rcases Nat.eq_zero_or_pos k with rfl | q
     ·simp at h1;omega
     ·exact q
    rw[e,i2 (by rw[Nat.pow_succ] at h1;omega) hk,Bq,Zd (by omega),ZoM c]
theorem number_eq {n:Int} (h:NumIn n):Zaw n=some (Go.Lib.itoa n):=by
 obtain ⟨h0,h1⟩:=h;have p10:10 ^ 10=10000000000:=by decide
 unfold Zaw Go.Lib.itoa;by_cases c:n<0
 ·rw[if_pos c]
  have hl:=Zk4 9 n.natAbs (by omega);have en:(0:Int)-n=((n.natAbs:Nat):Int):=by omega
  have e:∀ k,Y1 (k+1) n=(Y1 k ((n.natAbs:Nat):Int)).bind λr0=>Zp ((1:Int)+(r0.length:Int)<=(9223372036854775807:Int)) <| some ([(45:UInt8)]++r0):=λk=>by
   show YB _ _=_;unfold YB;rw[if_pos c,Zar (by omega) (by omega),en];rfl
  refine ZnG ⟨11,?_⟩ λk r hk=>?_
  ·rw[e 10,(ZnC 10 n.natAbs (by omega)).2 (by omega) (by omega),Bq,Zd (by omega)]
   rfl
  ·cases k with
   | zero=>cases hk
   | succ k =>
    rw[e k] at hk;obtain ⟨r0,h0',hk⟩:=Option.bind_eq_some_iff.1 hk;have:=(ZnC k n.natAbs (by omega)).1 r0 h0';subst this;rw[Zd (by omega)] at hk;exact (Option.some.inj hk).symm
 ·rw[if_neg c]
  have en:n=((n.toNat:Nat):Int):=by omega
  rw[en,Int.toNat_natCast];exact ZnG ⟨10,(ZnC 10 n.toNat (by omega)).2 (by omega) (by omega)⟩ λk r hk=>(ZnC k n.toNat (by omega)).1 r hk
theorem ZgC {n:Int} (h:NumIn n):Jy n=some (Go.Lib.itoa n):=by
 obtain ⟨h0,h1⟩:=h;unfold Jy;rw[Zd (by omega),Zd (by omega)]
def Zfj:List Int->List UInt8
 | []=>[]
 | n::r=>[32]++Go.Lib.itoa n++Zfj r
theorem ZlR:∀ a b:List Int,Zfj (a++b)=Zfj a++Zfj b
 | [],_=>rfl
 | n::a,b=>by
  show [32]++Go.Lib.itoa n++Zfj (a++b)=[32]++Go.Lib.itoa n++Zfj a++Zfj b;rw[ZlR a b];simp
theorem ZgF:∀ {l:List Int},(∀ n∈l,NumIn n)->(Zfj l).length<=12*l.length
 | [],_=>Nat.le_refl _
 | n::r,h=>by
  have h1:=ZiP (h n (by simp));have h2:=ZgF (l:=r) λx hx=>h x (List.mem_cons_of_mem _ hx);show ([32]++Go.Lib.itoa n++Zfj r).length<=_;simp only[List.length_append,List.length_cons,List.length_nil];omega
theorem ZrK:∀ (n:Int) (r:List Int),[32]++Go.Lib.join ((n::r).map Go.Lib.itoa) [32]=Zfj (n::r):=by
 intro n r;rw[List.map_cons,Go.Lib.join_cons];have:∀ r:List Int,Go.Lib.joinTail [32] (r.map Go.Lib.itoa)=Zfj r:=by
  intro r;induction r with
  | nil=>rfl
  | cons x r ih =>
   show ([32]++Go.Lib.itoa x)++Go.Lib.joinTail [32] (r.map Go.Lib.itoa)=[32]++Go.Lib.itoa x++Zfj r;rw[ih]
 rw[this];show _=[32]++Go.Lib.itoa n++Zfj r;simp
theorem ZjS {l:List Int} (hl:l.length<=1000) (h:∀ n∈l,NumIn n):YH l=some (Zfj l):=by
 unfold YH;refine Yr l.length (λk v=>v=(Zfj (l.take k),(k:Int),())) _ rfl ?_ ?_
 ·rintro k _ hk rfl
  left;have hx:l[k]?=some l[k]:=List.getElem?_eq_getElem hk;generalize l[k]=x at hx;have h1:=ZgF (l:=l.take k) λn hn=>h n (List.mem_of_mem_take hn);have hN:=h x (List.mem_of_getElem? hx);have h2:=ZiP hN;rw[List.length_take] at h1;refine ⟨(Zfj (l.take (k+1)),((k+1:Nat):Int),()),?_,rfl⟩;dsimp only;unfold JO;rw[if_pos (by omega),Zd (by simp only[List.length_cons,List.length_nil];omega),Zu,hx,Bq,number_eq hN,Bq,Zd (by simp only[List.length_append,List.length_cons,List.length_nil];omega),Zar (by omega) (by omega),Yy hx,ZlR];show some (Sum.inl (Zfj (l.take k)++[32]++Go.Lib.itoa x,(k:Int)+1,()))=some (Sum.inl (Zfj (l.take k)++([32]++Go.Lib.itoa x++[]),((k+1:Nat):Int),()));simp
 ·rintro _ rfl
  dsimp only;unfold JO;rw[if_neg (by omega),List.take_length]
theorem ZpK:∀ {l:List (List UInt8)} {c:Nat},(∀ x∈l,x.length<=c)->(Go.Lib.join l [32]).length<=(c+1)*l.length
 | [],c,_=>by simp[Go.Lib.join_nil]
 | x::r,c,h=>by
  rw[Go.Lib.join_cons,List.length_append];have h0:=h x (by simp);have key:∀ r:List (List UInt8),(∀ x∈r,x.length<=c)->(Go.Lib.joinTail [32] r).length<=(c+1)*r.length:=by
   intro r hr;induction r with
   | nil=>simp[Go.Lib.joinTail]
   | cons y r ih =>
    have h1:=hr y (by simp);have h2:=ih λx hx=>hr x (List.mem_cons_of_mem _ hx);show (([32]++y)++Go.Lib.joinTail [32] r).length<=_;simp only[List.length_append,List.length_cons,List.length_nil,Nat.mul_add,Nat.mul_one];omega
  have:=key r λy hy=>h y (List.mem_cons_of_mem _ hy);simp only[List.length_cons,Nat.mul_add,Nat.mul_one];omega
theorem join_eq {l:List Int} (hl:l.length<=1000) (h:∀ n∈l,NumIn n):ZiN l [32]=some (Go.Lib.join (l.map Go.Lib.itoa) [32]):=by
 unfold ZiN;rw[Zd (by omega),Zd (by omega),Zd (by omega),Zd (by omega),Int.toNat_natCast];refine Yr l.length (λk v=>v.1=(k:Int)/\v.2.1.length=l.length/\v.2.1.take k=(l.take k).map Go.Lib.itoa) _ ⟨rfl,by simp,rfl⟩ ?_ ?_
 ·rintro k ⟨i,out,⟨⟩⟩ hk ⟨hi,hlen,ht⟩
  simp only at hi hlen ht;subst hi;left;have hx:l[k]?=some l[k]:=List.getElem?_eq_getElem hk;generalize l[k]=x at hx;have hy:out[k]?=some (out[k]'(by omega)):=List.getElem?_eq_getElem (by omega);refine ⟨(((k+1:Nat):Int),out.set k (Go.Lib.itoa x),()),?_,rfl,by simp[hlen],?_⟩
  ·dsimp only
   unfold Zds;rw[if_pos (by omega),Zu,hx,Bq,ZgC (h x (List.mem_of_getElem? hx)),Bq,Zu,hy,Bq,Zar (by omega) (by omega),Int.toNat_natCast];rfl
  ·have hx2:(out.set k (Go.Lib.itoa x))[k]?=some (Go.Lib.itoa x):=by rw[List.getElem?_set_self (by omega)]
   show (out.set k (Go.Lib.itoa x)).take (k+1)=_;rw[Yy hx2,Yy hx,List.map_append,List.take_set,ht,List.set_eq_of_length_le (by simp;omega)];rfl
 ·rintro ⟨i,out,⟨⟩⟩ ⟨hi,hlen,ht⟩
  simp only at hi hlen ht;subst hi;have e:out=l.map Go.Lib.itoa:=by
   rw[List.take_length] at ht;rw[<-ht,List.take_of_length_le (by omega)]
  subst e;have hj:=ZpK (l:=l.map Go.Lib.itoa) (c:=11) λx hx=>by
   obtain ⟨n,hn,rfl⟩:=List.mem_map.1 hx;exact ZiP (h n hn)
  rw[List.length_map] at hj;dsimp only;unfold Zds;rw[if_neg (by omega),Zd (by rw[List.length_map];omega),Zd (by omega)]
def Zii (words:List (List UInt8)) (nums:List Int):List UInt8:=Go.Lib.join words [32]++Zfj nums++[10]
theorem ZjP {words:List (List UInt8)} {nums:List Int} (hw:words.length<=10) (hc:∀ x∈words,x.length<=1000) (hn:nums.length<=10) (h:∀ n∈nums,NumIn n) :
  Vw words nums=some (Zii words nums)/\(Zii words nums).length<=11000:=by
 have hj:=ZpK hc;have hk:=ZgF h;have hj2:(1000+1)*words.length<=10010:=by omega
 refine ⟨?_,?_⟩
 ·unfold Vw Zii
  rw[Zd (by omega),Zd (by omega)];cases nums with
  | nil =>
   rw[if_neg (by simp),Zd (by simp only[List.length_cons,List.length_nil];omega)];simp[Zfj]
  | cons n r =>
   have e:=ZrK n r;have e2:(Go.Lib.join ((n::r).map Go.Lib.itoa) [32]).length<=200:=by
    have:=congrArg List.length e;rw[List.length_append] at this;omega
   rw[if_pos (by simp only[List.length_cons];omega),join_eq (by omega) h,Bq,Zd (by simp only[List.length_cons,List.length_nil];omega),e,Zd (by omega),Zd (by simp only[List.length_append,List.length_cons,List.length_nil] at hk hn ⊢;omega)]
 ·unfold Zii
  simp only[List.length_append,List.length_cons,List.length_nil];omega
theorem Zfi {s:List UInt8} (h:QL s=true):s.length<=8:=by
 unfold QL at h;simp only[Bool.and_eq_true,decide_eq_true_eq] at h;exact h.1.1.2
theorem ZeK {α:Type} {f:α->List UInt8} {l:List α} (h:X6 (l.map f) l.length) {k:Nat} {x:α} (hx:l[k]?=some x):QL (f x)=true :=
 (h k (f x) (List.getElem?_eq_some_iff.1 hx).1 (by rw[List.getElem?_map,hx];rfl)).1
noncomputable def ZlW (a:Zt) (d:Zg) (x:Pl):List UInt8:=(Vb a d x).getD []
theorem ZqA {a:Zt} {d:Zg} (h:Zba a d) {x:Pl} (hx:x∈Zw d):Vb a d x=some (ZlW a d x)/\Y9 d a x=some (ZlW a d x)/\(ZlW a d x).length<=17:=by
 have key:∃ n,Vb a d x=some n/\Y9 d a x=some n/\n.length<=17:=by
  have hD:=h.2.1;unfold Zw at hx;rcases List.mem_append.1 hx with hx | hx
  ·obtain ⟨i,z,hi,hz⟩:=ZdH.1 hx
   unfold Zhx at hz;obtain ⟨j,n,hj,hn⟩:=ZdH.1 hz;simp only[List.mem_singleton] at hn;subst hn;obtain ⟨hc,⟨c,hc1,hc2⟩,_⟩:=h.2.2.1 z (List.mem_of_getElem? hi);have hj2:=(List.getElem?_eq_some_iff.1 hj).1;have hp:(Zk.Yz c)[j]?=some (Zk.Yz c)[j]:=List.getElem?_eq_getElem (by omega);generalize (Zk.Yz c)[j]=p at hp;have n1:(Zl.Name z).length<=8:=Zfi (ZeK (f:=Zl.Name) (by have:=hD.2.2.2.1;unfold ZcP at this;rw[List.length_map] at this;exact this) hi);have n2:(Yv.Name p).length<=8:=Zfi (ZeK (f:=Yv.Name) (h.1.2.1 c (List.mem_of_getElem? hc1)).2.1.2.2.1 hp);refine ⟨Zl.Name z++[(47:UInt8)]++Yv.Name p,?_,?_,?_⟩
   ·simp only[Vb,Ya.instance,Ya.pin,Nat.zero_add]
    rw[if_neg (by omega),Zu,hi,Bq,Zd (by simp only[List.length_cons,List.length_nil];omega),Zbc hc.1 hc1,Bq,Zu,hp,Bq,Zd (by simp only[List.length_append,List.length_cons,List.length_nil];omega)]
   ·simp only[Y9,YA.instance,YA.pin,Nat.zero_add]
    rw[if_neg (by omega),Zu,hi,Bq,Zd (by simp only[List.length_cons,List.length_nil];omega),Zbc hc.1 hc1,Bq,Zu,hp,Bq,Zd (by simp only[List.length_append,List.length_cons,List.length_nil];omega)]
   ·simp only[List.length_append,List.length_cons,List.length_nil];omega
  ·obtain ⟨j,p,hj,hp⟩:=ZdH.1 hx
   simp only[Zi7,List.mem_singleton] at hp;subst hp;have n1:(Ye.Name p).length<=8:=Zfi (ZeK (f:=Ye.Name) (by have:=hD.2.2.2.2.2;unfold ZaN at this;rw[List.length_map] at this;exact this) hj);refine ⟨Ye.Name p,?_,?_,by omega⟩
   ·simp only[Vb,Ya.instance,Ya.pin,Nat.zero_add]
    rw[if_pos (by omega),Zu,hj,Bq]
   ·simp only[Y9,YA.instance,YA.pin,Nat.zero_add]
    rw[if_pos (by omega),Zu,hj,Bq]
 obtain ⟨n,h1,h2,h3⟩:=key;have e:ZlW a d x=n:=by unfold ZlW;rw[h1];rfl
 rw[e];exact ⟨h1,h2,h3⟩
noncomputable def Jm (b:Zj) (i:Int):List UInt8:=(X4 b i).getD []
theorem ZbZ {b:Zj} (h:ZdN b) {i:Int} (h0:0<=i) (h1:i<((Zw (Zj.Design b)).length:Int)) :
  X4 b i=some (Jm b i)/\Zcp (Zj.Library b) (Zj.Design b) i=some (Jm b i)/\(∃ x,atI (Zw (Zj.Design b)) i=some x/\Y9 (Zj.Design b) (Zj.Library b) x=some (Jm b i))/\(Jm b i).length<=17:=by
 have hD:=h.ok.1;have hf:=hD.few;have hpl:=V9 hf;obtain ⟨x,hx,hm⟩:=ZkY h0 h1;obtain ⟨n1,n2,n3⟩:=ZqA hD hm;have e1:X4 b i=some (ZlW (Zj.Library b) (Zj.Design b) x):=by
  unfold X4;rw[QA _ hf,Bq,hx,Bq,n1,Bq]
 have e:Jm b i=ZlW (Zj.Library b) (Zj.Design b) x:=by unfold Jm;rw[e1];rfl
 rw[e];refine ⟨e1,?_,⟨x,hx,n2⟩,n3⟩;unfold Zcp Zj0;obtain ⟨sl,sd,_⟩:=ZnM h.sm;rw[ZfN _ _ sl sd,Bq,if_pos (Yf hD),QA _ hf,Bq,Qr,Bq,Zar (by omega) (by omega),if_pos (Yf (by omega)),hx,Bq,Bq,if_pos rfl];show (Vb _ _ x).bind _=_;rw[n1,Bq]
theorem Zgm {b:Zj} (h:ZdN b) {v:Z0} (hv:Z0.Zw v=Zw (Zj.Design b)) (hb:Z0.Block v=b) {i:Int} (h0:0<=i) (h1:i<((Zw (Zj.Design b)).length:Int)):YX v i=some (Jm b i):=by
 obtain ⟨_,_,⟨x,hx,hn⟩,_⟩:=ZbZ h h0 h1;unfold YX;rw[hv,hx,Bq,hb,hn,Bq]
def Zts (b:Zj) (i:Int):Prop:=0<=i/\i<((Zw (Zj.Design b)).length:Int)
theorem Zts.len {b:Zj} (h:ZdN b) {i:Int} (hi:Zts b i):(Jm b i).length<=17:=(ZbZ h hi.1 hi.2).2.2.2
noncomputable def Vi (b:Zj) (w:List UInt8):List Int->List UInt8
 | []=>[]
 | i::r=>[32]++w++[32]++Jm b i++Vi b w r
theorem ZfA (b:Zj) (w:List UInt8):∀ x y:List Int,Vi b w (x++y)=Vi b w x++Vi b w y
 | [],_=>rfl
 | n::a,y=>by
  show [32]++w++[32]++Jm b n++Vi b w (a++y)=[32]++w++[32]++Jm b n++Vi b w a++Vi b w y;rw[ZfA b w a y];simp
theorem Zac {b:Zj} (h:ZdN b) {w:List UInt8} (hw:w.length<=10):∀ {l:List Int},(∀ i∈l,Zts b i)->(Vi b w l).length<=30*l.length
 | [],_=>Nat.le_refl _
 | n::r,hi=>by
  have h1:=(hi n (by simp)).len h;have h2:=Zac h hw (l:=r) λx hx=>hi x (List.mem_cons_of_mem _ hx);show ([32]++w++[32]++Jm b n++Vi b w r).length<=_;simp only[List.length_append,List.length_cons,List.length_nil];omega
theorem Zm5 (b:Zj) (w:List UInt8) (i:Int):Vi b w [i]=[32]++w++[32]++Jm b i:=by
 show [32]++w++[32]++Jm b i++[]=_;simp
theorem Zfv {b:Zj} (h:ZdN b) {w:List UInt8} (hw:w.length<=10) {l:List Int} (hl:l.length<=4) (hi:∀ i∈l,Zts b i):Qt b w l=some (Vi b w l):=by
 unfold Qt;refine Yr l.length (λk v=>v=(Vi b w (l.take k),(k:Int),())) _ rfl ?_ ?_
 ·rintro k _ hk rfl
  left;have hx:l[k]?=some l[k]:=List.getElem?_eq_getElem hk;generalize l[k]=x at hx;have h1:=Zac h hw (l:=l.take k) λn hn=>hi n (List.mem_of_mem_take hn);have hN:=hi x (List.mem_of_getElem? hx);have h2:=hN.len h;obtain ⟨_,e2,_,_⟩:=ZbZ h hN.1 hN.2;rw[List.length_take] at h1;refine ⟨(Vi b w (l.take (k+1)),((k+1:Nat):Int),()),?_,rfl⟩;dsimp only;unfold Za1;rw[if_pos (by omega),Zd (by simp only[List.length_append,List.length_cons,List.length_nil];omega),Zd (by simp only[List.length_append,List.length_cons,List.length_nil];omega),Zd (by simp only[List.length_append,List.length_cons,List.length_nil];omega),Zu,hx,Bq,e2,Bq,Zd (by simp only[List.length_append,List.length_cons,List.length_nil];omega),Zar (by omega) (by omega),Yy hx,ZfA,Zm5];show some (Sum.inl (Vi b w (l.take k)++[32]++w++[32]++Jm b x,(k:Int)+1,()))=some (Sum.inl (Vi b w (l.take k)++([32]++w++[32]++Jm b x),((k+1:Nat):Int),()));simp
 ·rintro _ rfl
  dsimp only;unfold Za1;rw[if_neg (by omega),List.take_length]
abbrev Zyw:List (List UInt8):=[[(32:UInt8),(102:UInt8),(114:UInt8),(111:UInt8),(109:UInt8),(32:UInt8)],[(32:UInt8),(116:UInt8),(104:UInt8),(114:UInt8),(111:UInt8),(117:UInt8),(103:UInt8),(104:UInt8),(32:UInt8)],[(32:UInt8),(116:UInt8),(111:UInt8),(32:UInt8)]]
theorem Zk7 {b:Zj} (h:ZdN b) {v:Z0} (hv:Z0.Zw v=Zw (Zj.Design b)) (hb:Z0.Block v=b) {q:Int} {w:List UInt8} (hq:atI Zyw q=some ([32]++w++[32])) (hw:w.length<=10)
  {l:List Int} (hl:l.length<=4) (hi:∀ i∈l,Zts b i) {s:List UInt8} (hs:s.length<=10000) :
  Zq (λu=>Xg v q l u.1 u.2.1) (s,(0:Int),())=some (.inl (s++Vi b w l,Wq (q+1),())):=by
 refine Yr l.length (λk u=>u=(s++Vi b w (l.take k),(k:Int),())) _ (by simp[Vi]) ?_ ?_
 ·rintro k _ hk rfl
  left;have hx:l[k]?=some l[k]:=List.getElem?_eq_getElem hk;generalize l[k]=x at hx;have h1:=Zac h hw (l:=l.take k) λn hn=>hi n (List.mem_of_mem_take hn);have hN:=hi x (List.mem_of_getElem? hx);have h2:=hN.len h;obtain ⟨_,_,⟨p,e3,e4⟩,_⟩:=ZbZ h hN.1 hN.2;rw[List.length_take] at h1;refine ⟨(s++Vi b w (l.take (k+1)),((k+1:Nat):Int),()),?_,rfl⟩;dsimp only;unfold Xg;rw[if_pos (by omega),Zu,hx,Bq,hv,e3,Bq,hq,Bq,hb,e4,Bq,Zd (by simp only[List.length_append,List.length_cons,List.length_nil];omega),Zd (by simp only[List.length_append,List.length_cons,List.length_nil];omega),Zar (by omega) (by omega),Yy hx,ZfA,Zm5];simp
 ·rintro _ rfl
  dsimp only;unfold Xg;rw[if_neg (by omega),List.take_length]
def Zj2:List UInt8:=[102,114,111,109]
def ZaG:List UInt8:=[116,104,114,111,117,103,104]
def wTo:List UInt8:=[116,111]
theorem Zna.ZqN {b:Zj} {l:List Int} (h:Zna (Zw (Zj.Design b)).length l):∀ i∈l,Zts b i:=λi hi=>⟨(h.2 i hi).1,by have:=(h.2 i hi).2;omega⟩
noncomputable def ZhH (b:Zj) (e:Ze):List UInt8:=Vi b Zj2 (Ze.From e)++Vi b ZaG (Ze.Through e)++Vi b wTo (Ze.To e)
theorem Zn5 {b:Zj} (h:ZdN b) {v:Z0} (hv:Z0.Zw v=Zw (Zj.Design b)) (hb:Z0.Block v=b) {e:Ze} (he:Ziw (Zw (Zj.Design b)).length e) {s:List UInt8} (hs:s.length<=1000) :
  Zq (λu=>Yj v e u.1 u.2.1) (s,(0:Int),())=some (s++ZhH b e)/\(ZhH b e).length<=400:=by
 obtain ⟨h1,h2,h3,_⟩:=he;have l1:=Zac h (w:=Zj2) (by decide) h1.ZqN;have l2:=Zac h (w:=ZaG) (by decide) h2.ZqN;have l3:=Zac h (w:=wTo) (by decide) h3.ZqN;have k1:=h1.1;have k2:=h2.1;have k3:=h3.1;have ln:((List.length [Ze.From e,Ze.Through e,Ze.To e]:Nat):Int)=3:=rfl;refine ⟨?_,by unfold ZhH;simp only[List.length_append];omega⟩;rw[Zgw (v':=(s++Vi b Zj2 (Ze.From e),(1:Int),())),Zgw (v':=(s++Vi b Zj2 (Ze.From e)++Vi b ZaG (Ze.Through e),(2:Int),())),Zgw (v':=(s++Vi b Zj2 (Ze.From e)++Vi b ZaG (Ze.Through e)++Vi b wTo (Ze.To e),(3:Int),()))]
 ·refine ZeP ?_
  dsimp only;unfold Yj;rw[ln,if_neg (by omega)];unfold ZhH;simp
 ·dsimp only
  unfold Yj;rw[ln,if_pos (by omega),show atI [Ze.From e,Ze.Through e,Ze.To e] (2:Int)=some (Ze.To e) from rfl,Bq,Zk7 h hv hb (q:=2) (w:=wTo) rfl (by decide) k3 h3.ZqN (by simp only[List.length_append];omega)];rfl
 ·dsimp only
  unfold Yj;rw[ln,if_pos (by omega),show atI [Ze.From e,Ze.Through e,Ze.To e] (1:Int)=some (Ze.Through e) from rfl,Bq,Zk7 h hv hb (q:=1) (w:=ZaG) rfl (by decide) k2 h2.ZqN (by simp only[List.length_append];omega)];rfl
 ·dsimp only
  unfold Yj;rw[ln,if_pos (by omega),show atI [Ze.From e,Ze.Through e,Ze.To e] (0:Int)=some (Ze.From e) from rfl,Bq,Zk7 h hv hb (q:=0) (w:=Zj2) rfl (by decide) k1 h1.ZqN (by omega)];rfl
theorem ZqW {p q r:Prop} (h:q/\r/\p):p/\q/\r:=⟨h.2.2,h.1,h.2.1⟩
noncomputable def ZsD (b:Zj) (e:Ze):List UInt8:=(Xy b e).getD []
theorem Zjq {b:Zj} (h:ZdN b) {v:Z0} (hv:Z0.Zw v=Zw (Zj.Design b)) (hb:Z0.Block v=b) {e:Ze} (hs:sm Z4 e) (he:Ziw (Zw (Zj.Design b)).length e) :
  Xy b e=some (ZsD b e)/\Y3 v e=some (ZsD b e)/\(ZsD b e).length<=1000:=by
 have key:∃ t,Xy b e=some t/\Y3 v e=some t/\t.length<=1000:=by
  obtain ⟨h1,h2,h3,_,_,hV⟩:=id he;have l1:=Zac h (w:=Zj2) (by decide) h1.ZqN;have l2:=Zac h (w:=ZaG) (by decide) h2.ZqN;have l3:=Zac h (w:=wTo) (by decide) h3.ZqN;have k1:=h1.1;have k2:=h2.1;have k3:=h3.1;have e1:=Zfv h (w:=Zj2) (by decide) k1 h1.ZqN;have e2:=Zfv h (w:=ZaG) (by decide) k2 h2.ZqN;have e3:=Zfv h (w:=wTo) (by decide) k3 h3.ZqN;unfold Zj2 at e1 l1;unfold ZaG at e2 l2;unfold wTo at e3 l3;have hK:Ze.Kind e=1\/(Ze.Kind e≠1/\NumIn (Ze.Value e)/\(Ze.Kind e=2\/Ze.Kind e=3\/Ze.Kind e=4)):=by
   unfold Zn3 at hV;unfold NumIn;omega
  rcases hK with hK | ⟨hK,hN,hK2⟩
  ·obtain ⟨q,_⟩:=Zn5 h hv hb he (s:=[102,97,108,115,101]) (by decide)
   refine ⟨[102,97,108,115,101]++ZhH b e,ZqW ⟨?_,?_,?_⟩⟩
   ·unfold Y3
    rw[hK,show atI ZiH (1:Int)=some [102,97,108,115,101] from rfl,Bq,if_pos rfl,q]
   ·unfold ZhH Zj2 ZaG wTo
    simp only[List.length_append,List.length_cons,List.length_nil];omega
   ·unfold Xy
    rw[ZaU b h e hs,Bq,if_pos (Yf he),hK,show Wq ((1:Int)-1)=0 from rfl];show (some [102,97,108,115,101]).bind _=_;rw[Bq,if_pos rfl,e1,Bq,Zd (by simp only[List.length_append,List.length_cons,List.length_nil];omega),e2,Bq,Zd (by simp only[List.length_append,List.length_cons,List.length_nil];omega),e3,Bq,Zd (by simp only[List.length_append,List.length_cons,List.length_nil];omega)];unfold ZhH Zj2 ZaG wTo;simp only[List.append_assoc]
  ·have hd:=ZiP hN
   have hw:∃ x0:List UInt8,x0.length<=10/\atI ZiH (Ze.Kind e)=some x0/\atI ([[(102:UInt8),(97:UInt8),(108:UInt8),(115:UInt8),(101:UInt8)],[(99:UInt8),(121:UInt8),(99:UInt8),(108:UInt8),(101:UInt8),(115:UInt8)],[(109:UInt8),(97:UInt8),(120:UInt8)],[(109:UInt8),(105:UInt8),(110:UInt8)]]) (Wq (Ze.Kind e-(1:Int)))=some x0:=by
    rcases hK2 with k | k | k
    ·rw[k];exact ⟨[99,121,99,108,101,115],by decide,rfl,rfl⟩
    ·rw[k];exact ⟨[109,97,120],by decide,rfl,rfl⟩
    ·rw[k];exact ⟨[109,105,110],by decide,rfl,rfl⟩
   obtain ⟨x0,hx0,hx1,hx2⟩:=hw;obtain ⟨q,_⟩:=Zn5 h hv hb he (s:=x0++([32]++Go.Lib.itoa (Ze.Value e))) (by simp only[List.length_append,List.length_cons,List.length_nil];omega);refine ⟨x0++([32]++Go.Lib.itoa (Ze.Value e))++ZhH b e,ZqW ⟨?_,?_,?_⟩⟩
   ·unfold Y3
    rw[hx1,Bq,if_neg hK,ZgC hN,Bq,Zd (by simp only[List.length_append,List.length_cons,List.length_nil];omega),Zd (by simp only[List.length_append,List.length_cons,List.length_nil];omega),q]
   ·unfold ZhH Zj2 ZaG wTo
    simp only[List.length_append,List.length_cons,List.length_nil];omega
   ·unfold Xy
    rw[ZaU b h e hs,Bq,if_pos (Yf he),hx2,Bq,if_neg hK,Zd (by simp only[List.length_append,List.length_cons,List.length_nil];omega),number_eq hN,Bq,Zd (by simp only[List.length_append,List.length_cons,List.length_nil];omega),e1,Bq,Zd (by simp only[List.length_append,List.length_cons,List.length_nil];omega),e2,Bq,Zd (by simp only[List.length_append,List.length_cons,List.length_nil];omega),e3,Bq,Zd (by simp only[List.length_append,List.length_cons,List.length_nil];omega)];unfold ZhH Zj2 ZaG wTo;simp only[List.append_assoc]
 obtain ⟨t,h1,h2,h3⟩:=key;have e0:ZsD b e=t:=by unfold ZsD;rw[h1];rfl
 rw[e0];exact ⟨h1,h2,h3⟩
end Go.Proofs.YtepbknolmhmipaaGreatDoor
