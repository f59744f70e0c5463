/-
  Plain laws: what the draws of designs, wires and blocks yield.
-/
import Derived.Test.YtioiomifapgimaaGreatDoorLB
import Derived.Test.YtioiomifapgimaaGreatDoorLA
import Derived.Test.YtioiomifapgimaaGreatDoorM
import Derived.Test.YtioiomifapgimaaGreatDoorE1
namespace Go.Proofs.YtioiomifapgimaaGreatDoor
set_option linter.unusedVariables false
set_option linter.unusedSimpArgs false
open Go Go.Sx
def ZGh (x:Zd):Prop:=(∃ r,Zd.Name x=117::r/\r.length<=2)/\(2<=(Zd.YK x).length/\(Zd.YK x).length<=4)
def ZGJ (s:List UInt8):Prop:=∃ r,s=110::r/\r.length<=2
def ZGi (p:Z8):Prop:=(Z8.Name p).length<=2
structure ZGx (d:Zc):Prop where
 n0:2<=(Zc.Instances d).length
 n1:(Zc.Instances d).length<=9
 inst:∀ x∈Zc.Instances d,ZGh x
 nl:(Zc.YK d).length=(Zc.Instances d).length+3
 net:∀ s∈Zc.YK d,ZGJ s
 p0:4<=(Zc.Xi d).length
 p1:(Zc.Xi d).length<=5
 port:∀ p∈Zc.Xi d,ZGi p
theorem ZFx {s:ZdR} (hs:Src s) {most:Int} (hm1:1<=most) (hm2:most<=9) (wild:Bool):ZD7 (ZEP s most wild) (λr=>ZGx r.1/\Src r.2):=by
 unfold ZEP;have em:Wq (most-1)=most-1:=XG (by omega) (by omega);rw[em];refine (ZDY hs _).bind λr0 ⟨⟨a0,a1⟩,h0⟩=>?_;have e:Wq (2+r0.1)=2+r0.1:=XG (by omega) (by omega);rw[e];have hN:2<=2+r0.1/\2+r0.1<=9:=by omega
 generalize 2+r0.1=N at hN;refine ZD7.loop (λv=>0<=v.2.2.1/\(v.1.length:Int)+v.2.2.1=N/\v.2.1.length=v.1.length+3/\(∀ x∈v.1,ZGh x)/\(∀ x∈v.2.1,ZGJ x)/\Src (v.2.2.2.1,v.2.2.2.2.1,v.2.2.2.2.2.1,())) (λv=>v.2.2.1.toNat)
  ⟨by dsimp only;omega,by grind,rfl,λx hx=>(by cases hx),λx hx=>?_,h0⟩ ?_
 ·simp only[List.nil_append,List.mem_cons,List.not_mem_nil,or_false] at hx
  rcases hx with rfl | rfl | rfl
  ·exact ⟨_,rfl,Nat.le_refl _⟩
  ·exact ⟨_,rfl,by simp⟩
  ·exact ⟨_,rfl,by simp⟩
 rintro ⟨ins,nets,n,c0,c1,c2,⟨⟩⟩ ⟨i1,i2,i3,i4,i5,i6⟩;dsimp only at i1 i2 i3 i4 i5 i6;show ZD7 (ZEE wild ins nets n c0 c1 c2) _;unfold ZEE;split
 ·rename_i hn
  refine (ZDY i6 12).bind λr ⟨⟨b0,b1⟩,h1⟩=>?_;refine .at b0 (by simp only[List.length_cons,List.length_nil];omega) λx hx _=>?_;have hx7:0<=x/\x<=7:=by
   simp only[List.mem_cons,List.not_mem_nil,or_false] at hx;omega
  refine (ZF1 (n:=(ins.length:Int)) (by omega) (by omega)).bind λnm hnm=>?_;refine .guard (by grind) ?_;refine ZD7.loop (λv=>0<=v.1/\v.1<=3/\(v.2.2.2.2.1.length:Int)=v.1/\Src (v.2.1,v.2.2.1,v.2.2.2.1,())) (λv=>(3-v.1).toNat) ⟨by dsimp only;omega,by dsimp only;omega,rfl,h1⟩ ?_;rintro ⟨p,d0,d1,d2,l,⟨⟩⟩ ⟨j0,j1,j2,j3⟩;dsimp only at j0 j1 j2 j3;show ZD7 (ZEC ins nets n x nm p d0 d1 d2 l) _;unfold ZEC;refine .at hx7.1 (by grind) λk hk _=>?_;have hk4:2<=k/\k<=4:=by
   simp only[List.mem_cons,List.not_mem_nil,or_false] at hk;omega
  have ek:Wq (k-1)=k-1:=XG (by omega) (by omega);have ep:Wq (p+1)=p+1:=XG (by omega) (by omega);have en:Wq (n-1)=n-1:=XG (by omega) (by omega);simp only[ek,ep,en];split
  ·rename_i hpk
   refine (ZDY j3 _).bind λr2 ⟨_,h2⟩=>?_;refine (ZDY h2 3).bind λr3 ⟨_,h3⟩=>?_;repeat' first
    | split
    | refine ZD7.guard (by simp only[List.length_append,List.length_cons,List.length_nil];omega) ?_
    | exact .ret ⟨⟨by dsimp only;omega,by dsimp only;omega,by grind,h3⟩,by dsimp only;omega⟩
  ·refine .guard (by grind) ?_
   refine .guard (by grind) ?_;refine (ZF1 (n:=(nets.length:Int)) (by omega) (by omega)).bind λnn hnn=>?_;refine .guard (by grind) ?_;refine .guard (by grind) ?_;refine .guard (by grind) ?_;refine .ret ⟨⟨by dsimp only;omega,by grind,by grind,ZEN i4 ⟨⟨nm,rfl,hnm⟩,?_⟩,ZEN i5 ⟨nn,rfl,hnn⟩,j3⟩,by dsimp only;omega⟩;grind
 ·rename_i hn
  refine ZD7.loop (λv=>0<=v.1/\v.1<=9/\v.2.2.2.2.1.length=ins.length/\(∀ x∈v.2.2.2.2.1,ZGh x)/\Src (v.2.1,v.2.2.1,v.2.2.2.1,())) (λv=>(9-v.1).toNat) ⟨by dsimp only;omega,by dsimp only;omega,rfl,i4,i6⟩ ?_;rintro ⟨p,d0,d1,d2,l,⟨⟩⟩ ⟨j0,j1,j2,j3,j4⟩;dsimp only at j0 j1 j2 j3 j4;show ZD7 (ZED wild nets p d0 d1 d2 l) _;unfold ZED;have ep:Wq (p+1)=p+1:=XG (by omega) (by omega);simp only[ep];split
  ·rename_i hp
   refine (ZDY j4 4).bind λr ⟨_,h1⟩=>?_;split
   ·refine .at j0 hp λx hx hxi=>?_
    have hxd:=j3 x hx;have st:∀ v:Int,ZD7 ((ZDX r.2 v).bind λl01Next2=>(atI x.snd.snd.fst (0:Int)).bind λx1=>some (.inl (p+1,l01Next2.snd.fst,l01Next2.snd.snd.fst,l01Next2.snd.snd.snd.fst,List.set l (Int.toNat p) (x.fst,x.snd.fst,List.set x.snd.snd.fst (Int.toNat (0:Int)) (Wq ((1:Int)+l01Next2.fst)),()),()):(Int×(List Int)×Int×Int×(List (List UInt8×Int×List Int×Unit))×Unit) ⊕ (((List Zd)×(List (List UInt8))×Int×(List Int)×Int×Int×Unit) ⊕ (Zc×ZdR))))
      (Rnd (λv:Int×(List Int)×Int×Int×(List (List UInt8×Int×List Int×Unit))×Unit=>0<=v.1/\v.1<=9/\v.2.2.2.2.1.length=ins.length/\(∀ x∈v.2.2.2.2.1,ZGh x)/\Src (v.2.1,v.2.2.1,v.2.2.2.1,())) (λv=>(9-v.1).toNat) (9-p).toNat
       (Rnd (λv:(List Zd)×(List (List UInt8))×Int×(List Int)×Int×Int×Unit=>0<=v.2.2.1/\(v.1.length:Int)+v.2.2.1=N/\v.2.1.length=v.1.length+3/\(∀ x∈v.1,ZGh x)/\(∀ x∈v.2.1,ZGJ x)/\Src (v.2.2.2.1,v.2.2.2.2.1,v.2.2.2.2.2.1,())) (λv=>v.2.2.1.toNat) n.toNat (λr=>ZGx r.1/\Src r.2))):=λv=>by
     refine (ZDY h1 v).bind λr2 ⟨_,h2⟩=>?_;refine .at (by omega) (by have:=hxd.2.1;grind) λ_ _ _=>?_;refine .ret ⟨⟨by dsimp only;omega,by dsimp only;omega,by grind,ZFe j3 ⟨hxd.1,?_⟩,h2⟩,by dsimp only;omega⟩;show 2<=(List.set (Zd.YK x) _ _).length/\(List.set (Zd.YK x) _ _).length<=4;rw[List.length_set];exact hxd.2
    repeat' first
     | exact st _
     | split
     | exact .ret ⟨⟨by dsimp only;omega,by dsimp only;omega,by grind,ZFe j3 hxd,h1⟩,by dsimp only;omega⟩
   ·exact .ret ⟨⟨by dsimp only;omega,by dsimp only;omega,j2,j3,h1⟩,by dsimp only;omega⟩
  ·refine .guard (by grind) ?_
   refine (ZDY j4 2).bind λr ⟨_,h1⟩=>?_;have four:∀ a:Int,∀ p∈(([]:List (List UInt8×Int×Int×Unit))++[([(99:UInt8),(107:UInt8)],(1:Int),(0:Int),()),([(97:UInt8)],(1:Int),(1:Int),()),([(98:UInt8)],(1:Int),(2:Int),())]++[([(121:UInt8)],(2:Int),a,())]),ZGi p:=λa p hp=>by
    simp only[List.nil_append,List.cons_append,List.mem_cons,List.not_mem_nil,or_false] at hp;unfold ZGi;grind
   split
   ·refine (ZDY h1 _).bind λr2 ⟨_,h2⟩=>?_
    refine .guard (by grind) ?_;refine .ret ⟨⟨?_,?_,j3,?_,i5,?_,?_,ZEN (four _) (show 1<=2 by omega)⟩,h2⟩;all_goals grind
   ·refine .ret ⟨⟨?_,?_,j3,?_,i5,?_,?_,four _⟩,h1⟩
    all_goals grind
theorem ZGx.few {d:Zc} (h:ZGx d):Few d:=⟨by have:=h.n1;omega,by have:=h.p1;omega,λx hx=>by have:=(h.inst x hx).2.2;omega⟩
theorem ZGx.sm {d:Zc} (h:ZGx d):sm YJ d:=by
 have:=h.n1;have:=h.p1;have:=h.nl;refine ⟨smL (by grind) (λx hx=>?_),smL (by grind) (λx hx=>?_),smL (by grind) (λx hx=>?_),trivial⟩
 ·obtain ⟨⟨r,e,hr⟩,h2⟩:=h.inst x hx
  refine ⟨smS ?_,trivial,smI ?_,trivial⟩;all_goals grind
 ·obtain ⟨r,e,hr⟩:=h.net x hx
  refine smS ?_;grind
 ·have:=h.port x hx
  unfold ZGi at this;exact ⟨smS (by grind),trivial,trivial,trivial⟩
def ZGj (w:ZJ):Prop:=(1<=(ZJ.Parent w).length/\(ZJ.Parent w).length<=4)/\(ZJ.Res w).length=(ZJ.Parent w).length/\(ZJ.Cap w).length=(ZJ.Parent w).length/\(ZJ.Zkx w).length<=100
theorem ZGj.sm {w:ZJ} (h:ZGj w):sm Vu w:=by
 obtain ⟨h1,h2,h3,h4⟩:=h;exact ⟨smI (by grind),smI (by grind),smI (by grind),smI (by grind),trivial⟩
theorem ZFh (l:List Int) (h:l.length<=1048576):Zho l=some l:=by
 have h2:((([]:List Int).length+l.length)*8<=140737488355328):=by grind
 unfold Zho;first
  | (rw[Zh h2,List.nil_append])
  | (rw[Zh h2];rfl)
  | rfl
theorem ZGp {s:ZdR} (hs:Src s) {k:Int} (h0:0<=k) (h1:k<=100):ZD7 (ZEq s k) (λr=>ZGj r.1/\Src r.2):=by
 unfold ZEq;refine (ZDY hs 6).bind λr0 ⟨_,g0⟩=>?_;have hl:ZEH k r0.1=some ([(-1:Int)],[(0:Int)],[r0.1],List.replicate (Int.toNat k) (0:Int),()):=by
  unfold ZEH;rw[Zh (by omega),Zh (by omega),Zh (by omega),Zh (by omega)]
 rw[hl,Bq];refine (ZDY g0 4).bind λr1 ⟨⟨a,b⟩,g1⟩=>?_;refine ZD7.loop (λv=>0<=v.1/\(v.2.2.2.2.1.length:Int)+v.1=1+r1.1/\1<=v.2.2.2.2.1.length/\v.2.2.2.2.2.1.length=v.2.2.2.2.1.length/\v.2.2.2.2.2.2.1.length=v.2.2.2.2.1.length/\v.2.2.2.2.2.2.2.1.length<=100/\Src (v.2.1,v.2.2.1,v.2.2.2.1,())) (λv=>v.1.toNat)
  ⟨a,by grind,Nat.le_refl _,rfl,rfl,by grind,g1⟩ ?_
 rintro ⟨n,c0,c1,c2,l1,l2,l3,l4,⟨⟩⟩ ⟨i0,i1,i2,i3,i4,i5,i6⟩;dsimp only at i0 i1 i2 i3 i4 i5 i6;show ZD7 (ZEi n c0 c1 c2 l1 l2 l3 l4) _;unfold ZEi;have en:Wq (n-1)=n-1:=XG (by omega) (by omega);simp only[en];split
 ·rw[ZFh l1 (by omega),Bq,ZFh l2 (by omega),ZFh l3 (by omega)]
  refine (ZDY i6 _).bind λr2 ⟨_,h2⟩=>?_;refine .guard (by grind) ?_;rw[Bq];refine (ZDY h2 _).bind λr3 ⟨_,h3⟩=>?_;refine .guard (by grind) ?_;rw[Bq];refine (ZDY h3 _).bind λr4 ⟨_,h4⟩=>?_;refine .guard (by grind) ?_;refine .ret ⟨⟨by dsimp only;omega,?_,?_,?_,?_,i5,h4⟩,by dsimp only;omega⟩;all_goals grind
 ·refine ZD7.loop (λv=>0<=v.1/\v.1<=100/\v.2.2.2.2.1.length=l4.length/\Src (v.2.1,v.2.2.1,v.2.2.2.1,())) (λv=>(100-v.1).toNat) ⟨by dsimp only;omega,by dsimp only;omega,rfl,i6⟩ ?_
  rintro ⟨p,d0,d1,d2,l,⟨⟩⟩ ⟨j0,j1,j2,j3⟩;dsimp only at j0 j1 j2 j3;show ZD7 (ZEh l1 l2 l3 p d0 d1 d2 l) _;unfold ZEh;have ep:Wq (p+1)=p+1:=XG (by omega) (by omega);simp only[ep];split
  ·rename_i hp
   refine (ZDY j3 _).bind λr2 ⟨_,h2⟩=>?_;refine .at j0 hp λ_ _ _=>?_;exact .ret ⟨⟨by dsimp only;omega,by dsimp only;omega,by grind,h2⟩,by dsimp only;omega⟩
  ·refine .ret ⟨⟨⟨?_,?_⟩,i3,i4,?_⟩,j3⟩
   all_goals grind
structure ZGI (b:Ze):Prop where
 lib:sm YL (Ze.Library b)
 des:ZGx (Ze.Design b)
 wl:(Ze.QZ b).length=(Zc.YK (Ze.Design b)).length
 wires:∀ w∈Ze.QZ b,ZGj w
theorem ZGI.sm {b:Ze} (h:ZGI b):sm Yz b:=by
 have:=h.wl;have:=h.des.nl;have:=h.des.n1;exact ⟨h.lib,h.des.sm,smL (by grind) (λw hw=>(h.wires w hw).sm),trivial⟩
theorem ZE1 {s:ZdR} (hs:Src s) {most:Int} (hm1:1<=most) (hm2:most<=9) (wild:Bool):ZD7 (ZEt s most wild) (λr=>ZGI r.1/\Src r.2):=by
 unfold ZEt;refine (ZGs hs).bind λr0 ⟨hl,h0⟩=>?_;refine (ZFx h0 hm1 hm2 wild).bind λr1 ⟨hd,h1⟩=>?_;have hnl:=hd.nl;have hn1:=hd.n1;refine ZD7.loop (λv=>0<=v.2.1/\v.2.1<=((Zc.YK r1.1).length:Int)/\(v.1.length:Int)=v.2.1/\(∀ w∈v.1,ZGj w)/\Src (v.2.2.1,v.2.2.2.1,v.2.2.2.2.1,())) (λv=>(100-v.2.1).toNat)
  ⟨by dsimp only;omega,by dsimp only;omega,rfl,λw hw=>(by cases hw),h1⟩ ?_
 rintro ⟨ws,n,c0,c1,c2,⟨⟩⟩ ⟨i0,i1,i2,i3,i4⟩;dsimp only at i0 i1 i2 i3 i4;show ZD7 (ZEG r0 r1 ws n c0 c1 c2) _;unfold ZEG;have en:Wq (n+1)=n+1:=XG (by omega) (by omega);simp only[en];split
 ·rename_i hn
  have hn:n<((Zc.YK r1.1).length:Int):=hn;rw[Zgb r1.1 n hd.few,Bq];have hsl:(Zhm r1.1 n).length<=78:=Nat.le_trans (ZmC n (Xq r1.1) 0) (ZdT hd.few);refine (ZGp i4 (k:=((Zhm r1.1 n).length:Int)) (by omega) (by omega)).bind λr ⟨hw,h2⟩=>?_;refine .guard (by grind) (.ret ⟨⟨by dsimp only;omega,by dsimp only;omega,?_,ZEN i3 hw,h2⟩,by dsimp only;omega⟩);grind
 ·rename_i hn
  have hn:¬n<((Zc.YK r1.1).length:Int):=hn;refine .ret ⟨⟨hl.1,hd,?_,i3⟩,i4⟩;grind
theorem ZFl {l:List Int} (h:l.length<=1048576):sm (.sl (.int .i64)) l:=⟨by omega,λ_ _=>trivial⟩
theorem ZEZ {a b c d:List Int} (h1:a.length<=1048576) (h2:b.length<=1048576) (h3:c.length<=1048576) (h4:d.length<=1048576):sm Vu (a,b,c,d,()):=⟨ZFl h1,ZFl h2,ZFl h3,ZFl h4,trivial⟩
theorem ZF0 {a:List Zd} {b:List (List UInt8)} {c:List Z8} (h1:sm (.sl Yg) a) (h2:sm (.sl .str) b) (h3:sm (.sl VQ) c):sm YJ (a,b,c,()):=⟨h1,h2,h3,trivial⟩
theorem ZFc {a:Zt} {b:Zc} {c:List ZJ} (h1:sm YL a) (h2:sm YJ b) (h3:sm (.sl Vu) c):sm Yz (a,b,c,()):=⟨h1,h2,h3,trivial⟩
theorem ZGE {s:ZdR} (hs:Src s):ZD7 (ZEF s) (λr=>sm Yz r.1/\Src r.2):=by
 unfold ZEF;refine (ZDY hs 3).bind λr0 ⟨_,h0⟩=>?_;refine (ZE1 h0 (most:=6) (by omega) (by omega) _).bind λr1 ⟨hb,h1⟩=>?_;obtain ⟨bl,bd,bw,bwi⟩:=hb;have hnl:=bd.nl;have hn0:=bd.n0;have hn1:=bd.n1;have hwl:5<=(Ze.QZ r1.1).length/\(Ze.QZ r1.1).length<=12:=by omega
 refine (ZDY h1 _).bind λr2 ⟨⟨a0,a1⟩,h2⟩=>?_;have a1:r2.1<((Ze.QZ r1.1).length:Int):=by
  grind
 refine (ZDY h2 20).bind λr3 ⟨_,h3⟩=>?_;have sw:∀ w∈Ze.QZ r1.1,sm Vu w:=λw hw=>(bwi w hw).sm;have set_:∀ (w:ZJ),sm Vu w->sm (.sl Vu) (List.set (Ze.QZ r1.1) (Int.toNat r2.1) w):=λw hw=>smL (by grind) (ZFe sw hw);have fin:∀ (ws:List ZJ) (t:ZdR),sm (.sl Vu) ws->Src t->ZD7 (some ((r1.1.1,r1.1.2.1,ws,()),t)) (λr:Ze×ZdR=>sm Yz r.1/\Src r.2):=λws t hw ht =>
  .ret ⟨ZFc bl bd.sm hw,ht⟩
 refine ZD7.ite (λ_=>?_) (λ_=>?_)
 ·refine .guard (by grind) (.guard (Int.le_refl _) ?_)
  refine fin _ _ (smL ?_ (λw hw=>sw w ?_)) h3;all_goals grind
 refine ZD7.ite (λ_=>?_) (λ_=>?_)
 ·refine .at a0 a1 λw hw _=>?_
  obtain ⟨⟨w1,w2⟩,w3,w4,w5⟩:=bwi w hw;have w5:(w.snd.snd.snd.fst).length<=100:=w5;rw[ZFh _ (by omega),Bq];refine .guard (by grind) (fin _ _ (set_ _ ?_) h3);refine ZEZ (by grind) (by grind) (by grind) ?_;grind
 refine ZD7.ite (λ_=>?_) (λ_=>?_)
 ·refine .at a0 a1 λw hw _=>?_
  obtain ⟨⟨w1,w2⟩,w3,w4,w5⟩:=bwi w hw;refine .at (by omega) (by grind) λ_ _ _=>fin _ _ (set_ _ ?_) h3;refine ZEZ (by grind) (by grind) (by grind) (by grind)
 refine ZD7.ite (λ_=>?_) (λ_=>?_)
 ·refine .at a0 a1 λw hw _=>?_
  obtain ⟨⟨w1,w2⟩,w3,w4,w5⟩:=bwi w hw;refine (ZDY h3 3).bind λr4 ⟨⟨b0,b1⟩,h4⟩=>?_;refine .at b0 (by grind) λ_ _ _=>?_;refine .at (by omega) (by grind) λ_ _ _=>fin _ _ (set_ _ ?_) h4;refine ZEZ (by grind) (by grind) (by grind) (by grind)
 refine ZD7.ite (λ_=>?_) (λ_=>?_)
 ·refine .at a0 a1 λw hw _=>?_
  obtain ⟨⟨w1,w2⟩,w3,w4,w5⟩:=bwi w hw;refine (ZDY h3 5).bind λr4 ⟨_,h4⟩=>?_;have ew:Wq (((ZJ.Parent w).length:Int)-1)=((ZJ.Parent w).length:Int)-1:=XG (by omega) (by omega);refine .at (by grind) (by grind) λ_ _ _=>fin _ _ (set_ _ ?_) h4;refine ZEZ (by show (List.set (ZJ.Parent w) _ _).length<=_;rw[List.length_set];omega) (by grind) (by grind) (by grind)
 refine ZD7.ite (λ_=>?_) (λ_=>?_)
 ·refine .at (by omega) (by show (0:Int)<((Zc.Xi (Ze.Design r1.1)).length:Int);have:=bd.p0;omega) λp hp _=>?_
  obtain ⟨s1,s2,s3⟩:=ZhG bd.sm;have hpd:=bd.port p hp;unfold ZGi at hpd;refine .ret ⟨ZFc bl (ZF0 s1 s3 ?_) (smL (by grind) sw),h3⟩;refine smL (by show (List.set (Zc.Xi (Ze.Design r1.1)) _ _).length<=_;rw[List.length_set];have:=bd.p1;omega) (ZFe s2.2 ⟨smS (by grind),trivial,trivial,trivial⟩)
 ·exact fin _ _ (smL (by grind) sw) h3
theorem ZFy {s:ZdR} (hs:Src s):ZD7 (ZEQ s) (λr=>sm Yz r.1/\Src r.2):=by
 unfold ZEQ;refine (ZDY hs 14).bind λr0 ⟨_,h0⟩=>?_;refine ZD7.ite (λ_=>(ZGE h0).bind λr h=>.ret h) (λ_=>?_);refine ZD7.ite (λ_=>(ZE1 h0 (by omega) (by omega) _).bind λr h=>.ret ⟨h.1.sm,h.2⟩) (λ_=>?_);refine (ZDY h0 8).bind λr1 ⟨hB,h1⟩=>?_;have b0:0<=r1.1/\r1.1<8:=by unfold Bel at hB;omega
 rw[show Wq (2+r1.1)=2+r1.1 from XG (by omega) (by omega)];have c1:1<=2+r1.1:=by omega
 have c2:2+r1.1<=9:=by omega
 exact (ZE1 h1 c1 c2 _).bind λr h=>.ret ⟨h.1.sm,h.2⟩
theorem ZFZ {n d:Int} (h0:0<=n) (h1:1<=d):ZD7 (ZEI n d) (λ_=>True):=by
 unfold ZEI;rw[ZmK (by omega) h0,Bq];have:Int.gcd d n≠0:=by
  intro e;have:=(Int.gcd_eq_zero_iff.1 e).1;omega
 refine .guard (by omega) (ZD7.ite (λ_=>.ret trivial) (λ_=>.ret trivial))
def ZGD (r:List Zg×ZdR):Prop:=r.1.length<=30
theorem ZFm (b:Ze) (hb:sm Yz b):∃ r:List Int×Int,ZEv b=some r/\r.1.length<=30:=by
 unfold ZEv;rw[ZnK b hb,Bq];by_cases c:Zkl b=0
 ·have h:Va b:=⟨(ZnL.1 c).1,hb⟩
  rw[if_pos c,Zjb h,Bq];exact ⟨_,rfl,by have:=Zr1 b;have:=Qt h;show (srcs b).length<=30;omega⟩
 ·rw[if_neg c]
  exact ⟨_,rfl,by simp⟩
theorem ZGm {s:ZdR} (hs:Src s) {b:Ze} (hb:sm Yz b):ZD7 (ZEr s b) ZGD:=by
 obtain ⟨q,hq,hl⟩:=ZFm b hb;unfold ZEr;rw[hq,Bq];refine ZD7.loop (λv=>(v.1.length:Int)<=v.2.1/\0<=v.2.1/\v.2.1<=(q.1.length:Int)/\Src (v.2.2.1,v.2.2.2.1,v.2.2.2.2.1,())) (λv=>q.1.length-v.2.1.toNat) ⟨by simp,Int.le_refl _,by dsimp only;omega,hs⟩ ?_;rintro ⟨out,i,c0,c1,c2,⟨⟩⟩ ⟨i0,i1,i2,i3⟩;dsimp only at i0 i1 i2 i3;have ho:out.length<=30:=by omega
 have fin:∀ {l:List Zg} {t:ZdR} {I:(List Zg×Int×List Int×Int×Int×Unit)->Prop} {μ:(List Zg×Int×List Int×Int×Int×Unit)->Nat} {m:Nat},l.length<=30->ZD7 (some (.inr (l,t)):Option ((List Zg×Int×List Int×Int×Int×Unit) ⊕ (List Zg×ZdR))) (Rnd I μ m ZGD):=λh=>.ret (show ZGD _ from h);show ZD7 (ZEj q out i c0 c1 c2) _;unfold ZEj;have tail:∀ {I:(List Zg×Int×List Int×Int×Int×Unit)->Prop} {μ:(List Zg×Int×List Int×Int×Int×Unit)->Nat} {m:Nat},ZD7 (if (↑(List.length out):Int)=(0:Int) then
    (some (.inr (out,(c0,c1,c2,()))):Option ((List Zg×Int×List Int×Int×Int×Unit) ⊕ (List Zg×ZdR)))
   else
    (ZDX (c0,c1,c2,()) (16:Int)).bind λl01Next0 =>
    if l01Next0.fst=(0:Int) then
     (ZDX l01Next0.snd (4:Int)).bind λl01Next1 =>
     if l01Next1.fst=(0:Int) then
      Zu ((1:Int)<=(↑(List.length out):Int)) <|
      Zu ((↑(List.length out):Int)<=(↑(List.length out):Int)) <|
      some (.inr (List.take (Int.toNat (↑(List.length out):Int)-Int.toNat (1:Int)) (List.drop (Int.toNat (1:Int)) out),l01Next1.snd))
     else
      if l01Next1.fst=(1:Int) then
       (atI out (0:Int)).bind λx0 =>
       some (.inr (List.set out (Int.toNat (0:Int)) (((2:Int),(4:Int),()),x0.snd),l01Next1.snd))
      else
       if l01Next1.fst=(2:Int) then
        (atI out (0:Int)).bind λx0 =>
        some (.inr (List.set out (Int.toNat (0:Int)) (((1:Int),(11:Int),()),x0.snd),l01Next1.snd))
       else
        (ZDX l01Next1.snd (2:Int)).bind λl01Next2 =>
        (atI out (0:Int)).bind λx0 =>
        some (.inr (List.set out (Int.toNat (0:Int)) (Zg.High x0,Wq (Wq ((1002:Int)*l01Next2.fst)-(1:Int)),()),l01Next2.snd))
    else
     some (.inr (out,l01Next0.snd))) (Rnd I μ m ZGD):=by
  intro I μ m;refine ZD7.ite (λ_=>fin ho) (λhne=>?_);have h1:(0:Int)<(out.length:Int):=by omega
  refine (ZDY i3 16).bind λr0 ⟨_,g0⟩=>?_;refine ZD7.ite (λ_=>?_) (λ_=>fin ho);refine (ZDY g0 4).bind λr1 ⟨_,g1⟩=>?_;refine ZD7.ite (λ_=>.guard (by omega) (.guard (Int.le_refl _) (fin ?_))) (λ_=>?_)
  ·rw[List.length_take,List.length_drop];omega
  refine ZD7.ite (λ_=>.at (Int.le_refl _) h1 λ_ _ _=>fin (by rw[List.length_set];exact ho)) (λ_=>?_);refine ZD7.ite (λ_=>.at (Int.le_refl _) h1 λ_ _ _=>fin (by rw[List.length_set];exact ho)) (λ_=>?_);refine (ZDY g1 2).bind λr2 ⟨_,g2⟩=>?_;exact .at (Int.le_refl _) h1 λ_ _ _=>fin (by rw[List.length_set];exact ho)
 refine ZD7.ite (λhi=>?_) (λ_=>tail);refine ZD7.ite (λ_=>?_) (λ_=>tail);refine (ZDY i3 6).bind λr0 ⟨⟨a0,a1⟩,g0⟩=>?_;have w1:Wq (1+r0.1)=1+r0.1:=XG (by omega) (by omega);rw[w1];refine (ZDY g0 _).bind λr1 ⟨⟨b0,_⟩,g1⟩=>?_;refine (ZFZ b0 (by omega)).bind λf _=>?_;refine (ZDY g1 2).bind λr2 ⟨_,g2⟩=>?_;have wi:Wq (i+1)=i+1:=XG (by omega) (by omega);refine ZD7.ite (λ_=>?_) (λ_=>?_);all_goals
  refine (ZDY g2 60).bind λr3 ⟨_,g3⟩=>?_;rw[wi];refine .guard (by simp;omega) (.ret ⟨⟨?_,?_,?_,g3⟩,?_⟩)
  ·dsimp only;rw[List.length_append,List.length_singleton];omega
  ·dsimp only;omega
  ·dsimp only;omega
  ·dsimp only;omega
theorem ZGe {code:List Int} (hc:∀ x∈code,0<=x/\x<=255) (hl:code.length<=4096):ZD7 (ZEe code) (λr=>sm Yz r.1/\r.2.length<=1048576):=by
 unfold ZEe ZEn;refine ZD7.bind (P:=λr:Ze×List Zg=>sm Yz r.1/\r.2.length<=1048576) ?_ (λr h=>.ret h);refine (ZGk hc hl).bind λs hs=>?_;refine (ZFy hs).bind λr ⟨hb,h1⟩=>?_;refine (ZGm h1 hb).bind λq hq=>.ret ⟨hb,?_⟩;unfold ZGD at hq;show q.1.length<=_;omega
noncomputable def ipF (b:Ze) (s:List Bool×List Int) (list:List Zg) (i:Nat):ZnB:=(ZD0 (chn b s list) (i:Int) (ZkI b list) (ZpH b list)).getD (0,0,0,())
theorem ZGr {b:Ze} {s:List Bool×List Int} (h:Lgc b s) {list:List Zg} (ha:Zct b list) {i:Nat} (hi:i<(insts b).length) :
  ZD0 (chn b s list) (i:Int) (ZkI b list) (ZpH b list)=some (ipF b s list i)/\(0<=ZnB.Internal (ipF b s list i)/\ZnB.Internal (ipF b s list i)<=3000000000)/\0<=ZnB.ZzH (ipF b s list i)/\ZnB.ZzH (ipF b s list i)<=100000:=by
 have hx:(insts b)[i]?=some ((insts b)[i]'hi):=List.getElem?_eq_getElem _;generalize (insts b)[i]'hi=x at hx;have hm:=List.mem_of_getElem? hx;obtain ⟨c,hc⟩:=ZjP h.blk hm;obtain ⟨l0,l1,l2⟩:=last_at h.blk hm;obtain ⟨v,hv⟩:∃ v:Nat,YQ x=(v:Int):=⟨(YQ x).toNat,by omega⟩;have hvn:v<Yc b:=by omega
 rw[hv] at l0;have e:ZD0 (chn b s list) (i:Int) (ZkI b list) (ZpH b list)=some (Zxf b list v,Wq (Zm.ZhS c*ZoK b list v),Zm.ZuT c,()):=by
  unfold ZD0;rw[show Zc.Instances (Ze.Design (YA.Block (YI.logic (chn b s list))))=insts b from rfl,show YA.Block (YI.logic (chn b s list))=b from rfl,Zo,hx,Bq,l0,Bq,Zpa hx hc,Bq,Zo,ZrU b list hvn,Bq,Zo,Zuh b list hvn,Bq]
 obtain ⟨_,_,_,hk,he,_⟩:=hc.ok;have hr:=ZGn h ha hvn;have m0:=Int.mul_nonneg he.1 hr.1;have m1:Zm.ZhS c*ZoK b list v<=100000*30000:=Int.mul_le_mul he.2 hr.2 hr.1 (by omega);unfold ipF;rw[e];refine ⟨rfl,?_,hk⟩;show 0<=Wq (Zm.ZhS c*ZoK b list v)/\Wq (Zm.ZhS c*ZoK b list v)<=3000000000;rw[XG (by omega) (by omega)];omega
def wS (F:Nat->Int):Nat->Int
 | 0=>0
 | k+1=>Wq (wS F k+F k)
theorem ZGv {F:Nat->Int} {c:Int} (hc:c<=4000000000):∀ {k:Nat},k<=1000->(∀ i,i<k->0<=F i/\F i<=c)->0<=wS F k/\wS F k<=(k:Int)*4000000000/\wS F k=sumTo F k
 | 0,_,_=>⟨Int.le_refl _,by show (0:Int)<=0*4000000000;omega,rfl⟩
 | k+1,hk,h=>by
  obtain ⟨h1,h2,h3⟩:=ZGv hc (k:=k) (by omega) λi hi=>h i (by omega);have h4:=h k (by omega);show 0<=Wq (wS F k+F k)/\Wq (wS F k+F k)<=_/\Wq (wS F k+F k)=sumTo F k+F k;rw[XG (by omega) (by omega)];omega
theorem ZGu {b:Ze} {s:List Bool×List Int} (h:Lgc b s) {list:List Zg} (ha:Zct b list) (hc:ZcZ b list []=some (some (chn b s list),0)) :
  ZD4 b list=some ((wS (Zxf b list) (Yc b),wS (λi=>ZnB.Internal (ipF b s list i)) (insts b).length,wS (λi=>ZnB.ZzH (ipF b s list i)) (insts b).length,()),0):=by
 have hn:=Qt h.blk;have h14:(insts b).length<=14:=h.blk.ok.1.few.insts;unfold ZD4;rw[hc,Bq,if_pos rfl,Bq,Zue h ha,Bq];refine Ya (Yc b) (λk v=>v=((k:Int),wS (Zxf b list) k,())) _ rfl ?_ ?_
 ·rintro k _ hk rfl
  left;refine ⟨_,?_,rfl⟩;simp only[ZEm,Zjz,show (k:Int)<(Yc b:Int) from by omega,if_true,Zo,ZrU b list hk,Bq,Xj (show k<=1048576 by omega)];rfl
 ·rintro _ rfl
  simp only[ZEm,Zjz,Int.lt_irrefl,if_false];rw[show ZD2 (Zc.Instances (Ze.Design b))=some ((insts b).length:Int) from rfl,Bq];refine Ya (insts b).length (λk v=>v=((k:Int),wS (λi=>ZnB.Internal (ipF b s list i)) k,wS (λi=>ZnB.ZzH (ipF b s list i)) k,())) _ rfl ?_ ?_
  ·rintro k _ hk rfl
   left;refine ⟨_,?_,rfl⟩;simp only[ZEl];rw[if_pos (by omega),(ZGr h ha hk).1,Bq,Xj (by omega)];rfl
  ·rintro _ rfl
   simp only[ZEl,Int.lt_irrefl,if_false]
theorem ZFY {b:Ze} {s:List Bool×List Int} (h:Lgc b s) (hb:sm Yz b) {list:List Zg} (hl:list.length<=1048576) (ha:Zct b list) {k:Nat} (hk:k<Yc b):ZEu b list (k:Int)=some (Zxf b list k,0):=by
 rcases Zst b hb [(k:Int)] (by simp) with ⟨q,_⟩ | ⟨s2,hs2,q,hc⟩
 ·exact absurd (ZnL.2 ⟨h.blk.ok,by obtain ⟨_,r,hr,_⟩:=h.ord.rank h.all;exact ⟨r,hr⟩⟩) q
 ·rcases hc with ⟨_,e⟩ | ⟨w,_⟩
  ·unfold ZEu
   rw[Zpb hs2 list hl e,if_pos (Yt ha),Bq,if_pos rfl,Bq,Zue hs2 ha,Bq,Zo,ZrU b list hk,Bq]
  ·exact absurd (show Ze7 [(k:Int)] 0 ((Yc b:Int)-1) from λx hx=>by
    have:=List.mem_singleton.1 hx;omega) w
theorem ZF2 {b:Ze} {s:List Bool×List Int} (h:Lgc b s) (hb:sm Yz b) {list:List Zg} (hl:list.length<=1048576) (ha:Zct b list):∃ s2,Lgc b s2/\VW b []=some (some (b,gates b,s2.2,()),0)/\ZcZ b list []=some (some (chn b s2 list),0):=by
 rcases Zst b hb [] (by simp) with ⟨q,_⟩ | ⟨s2,hs2,q,hc⟩
 ·exact absurd (ZnL.2 ⟨h.blk.ok,by obtain ⟨_,r,hr,_⟩:=h.ord.rank h.all;exact ⟨r,hr⟩⟩) q
 ·rcases hc with ⟨_,e⟩ | ⟨w,_⟩
  ·exact ⟨s2,hs2,e,by rw[Zpb hs2 list hl e,if_pos (Yt ha)]⟩
  ·exact absurd (show Ze7 [] 0 ((Yc b:Int)-1) from λx hx=>by cases hx) w
theorem ZFr {b:Ze} {s:List Bool×List Int} (h:Lgc b s) {list:List Zg} (ha:Zct b list) (e1:VW b []=some (some (b,gates b,s.2,()),0)) (e2:ZcZ b list []=some (some (chn b s list),0)) {k:Nat} (hk:k<(insts b).length) :
  ZD9 b list (k:Int)=some (ipF b s list k,0):=by
 have h14:(insts b).length<=14:=h.blk.ok.1.few.insts;unfold ZD9;have hil:ZD2 (Zc.Instances (Ze.Design b))=some ((insts b).length:Int):=rfl;rw[e1,Bq,if_pos rfl,hil,Bq,XG (by omega) (by omega),Jo,Bq,if_pos (Yt (by omega)),e2,Bq,if_pos rfl,Bq,Zue h ha,Bq];show (ZD0 (chn b s list) (k:Int) (ZkI b list) (ZpH b list)).bind _=_;rw[(ZGr h ha hk).1,Bq]
def ZFn (l:List NS):Int:=(l.map λx=>Zj.Power x).sum
theorem ZGo {l r:List NS} (h:l.Perm r):ZFn l=ZFn r:=by
 unfold ZFn;induction h with
 | nil=>rfl
 | cons x _ ih=>simp[ih]
 | swap x y l=>simp only[List.map_cons,List.sum_cons];omega
 | trans _ _ ih1 ih2=>rw[ih1,ih2]
theorem ZFu (b:Ze) (list:List Zg):∀ n,ZFn (ZqM b list n)=sumTo (Zxf b list) n
 | 0=>rfl
 | n+1=>by
  rw[ZpM];unfold ZFn;rw[List.map_append,List.sum_append];show ZFn (ZqM b list n)+_=sumTo (Zxf b list) n+Zxf b list n;rw[ZFu b list n];show _+(Zxf b list n+0)=_;omega
theorem ZGG {b:Ze} {s:List Bool×List Int} (h:Lgc b s) {list:List Zg} (ha:Zct b list) (e1:VW b []=some (some (b,gates b,s.2,()),0)) (e2:ZcZ b list []=some (some (chn b s list),0)) :
  ∃ L,ZaY b list 30=some (L,0)/\L.Perm (ZqM b list (Yc b))/\L.Pairwise RS:=by
 have hn:=Qt h.blk;obtain ⟨L,a1,a2,a3⟩:=Zvl b list 30 ⟨by omega,by omega⟩ hn;refine ⟨L,?_,a2,a3⟩;have hl:=a2.length_eq;rw[ZhF] at hl;unfold ZaY;rw[e1,Bq,if_pos rfl,Jo,Bq,if_pos (Yt (by omega)),e2,Bq,if_pos rfl,Bq,Zue h ha,Bq,a1,List.take_of_length_le (by show L.length<=30;omega)]
theorem ZGq {b:Ze} {list:List Zg} {p:ZnB} (e:ZD4 b list=some (p,0)) (m:Int):ZEk b list m=some (Decidable.decide (Wq (Wq (p.1+p.2.1)+p.2.2.1)<=m),0):=by
 unfold ZEk;rw[e,Bq,if_pos rfl]
theorem ZE8 (code:List Int) (hbn:bnd (.sl (.int .u8)) code):ZEJ code=some true:=by
 unfold ZEJ ZFk;rw[Bq];split
 ·rfl
 rename_i hbig;have hlen:code.length<=4096:=by
  simp only[decide_eq_true_eq] at hbig;omega
 obtain ⟨⟨b,list⟩,hd,hb,hl⟩:=ZGe (λx hx=>hbn.2 x hx) hlen;simp only at hb hl;rw[hd,Bq];rcases ZFw b hb list hl with ⟨c,hc,e1,e2⟩ | ⟨s,hs,ha,e1,e2⟩
 ·have t1:ZD4 b list=some (((0:Int),(0:Int),(0:Int),()),c):=by
   unfold ZD4;rw[e1,Bq,if_neg hc]
  have t2:ZEw b list=some (((0:Int),(0:Int),(0:Int),()),c):=by
   unfold ZEw;rw[e2,Bq,if_neg hc]
  dsimp only;rw[t1,Bq,if_neg hc,t2,Bq,if_pos rfl];rfl
 obtain ⟨s,hs,lo,e1⟩:=ZF2 hs hb hl ha;have hn:=Qt hs.blk;have h14:(insts b).length<=14:=hs.blk.ok.1.few.insts;have hT:=ZGu hs ha e1;have bA:=ZGv (F:=Zxf b list) (c:=1290000000) (by omega) (k:=Yc b) (by omega) λi hi=>ZGw hs ha hi;have bB:=ZGv (F:=λi=>ZnB.Internal (ipF b s list i)) (c:=3000000000) (by omega) (k:=(insts b).length) (by omega) λi hi=>(ZGr hs ha hi).2.1;have bC:=ZGv (F:=λi=>ZnB.ZzH (ipF b s list i)) (c:=100000) (by omega) (k:=(insts b).length) (by omega) λi hi=>(ZGr hs ha hi).2.2;have hB:=λm=>ZGq hT m;dsimp only;generalize hP:wS (Zxf b list) (Yc b)=P at *;generalize hI:wS (λi=>ZnB.Internal (ipF b s list i)) (insts b).length=I at *;generalize hK:wS (λi=>ZnB.ZzH (ipF b s list i)) (insts b).length=K at *;rw[hT,Bq,if_pos rfl];refine Ya (Yc b) (λk v=>v=(list,(k:Int),b.1.1,b.2.1.1,b.2.1.2.1,b.2.1.2.2.1,b.2.2.1,wS (Zxf b list) k,())) _ rfl ?_ ?_
 ·rintro k _ hk rfl
  left;refine ⟨_,?_,rfl⟩;simp only[ZEc];rw[if_pos (by show (k:Int)<(Yc b:Int);omega),show ZEu ((b.1.1,()),(b.2.1.1,b.2.1.2.1,b.2.1.2.2.1,()),b.2.2.1,()) list (k:Int)=some (Zxf b list k,0) from ZFY hs hb hl ha hk,Bq,if_pos rfl,Xj (by omega)];rfl
 rintro _ rfl;simp only[ZEc];rw[if_neg (by show ¬(Yc b:Int)<(Yc b:Int);omega),hP];refine Ya (insts b).length (λk v=>v=(list,(k:Int),b.1.1,b.2.1.1,b.2.1.2.1,b.2.1.2.2.1,b.2.2.1,wS (λi=>ZnB.Internal (ipF b s list i)) k,wS (λi=>ZnB.ZzH (ipF b s list i)) k,())) _ rfl ?_ ?_
 ·rintro k _ hk rfl
  left;refine ⟨_,?_,rfl⟩;simp only[ZEb];rw[if_pos (by show (k:Int)<((insts b).length:Int);omega),show ZD9 ((b.1.1,()),(b.2.1.1,b.2.1.2.1,b.2.1.2.2.1,()),b.2.2.1,()) list (k:Int)=some (ipF b s list k,0) from ZFr hs ha lo e1 hk,Bq,if_pos rfl,Xj (by omega)];rfl
 rintro _ rfl;simp only[ZEb];obtain ⟨L,hL,hp,hso⟩:=ZGG hs ha lo e1;have hLl:=hp.length_eq;rw[ZhF] at hLl;rw[if_neg (by show ¬((insts b).length:Int)<((insts b).length:Int);omega),hI,hK,show ZaY ((b.1.1,()),(b.2.1.1,b.2.1.2.1,b.2.1.2.2.1,()),b.2.2.1,()) list 30=some (L,0) from hL,Bq];have hpw:∀ x∈L,0<=Zj.Power x/\Zj.Power x<=1290000000:=λx hx=>by
  obtain ⟨k,hk,e⟩:=List.getElem_of_mem (hp.mem_iff.1 hx);have hk2:k<Yc b:=by rw[ZhF] at hk;exact hk
  have:=Zxp b list hk2;rw[List.getElem?_eq_getElem hk,e] at this;injection this with this
  rw[this];exact ZGw hs ha hk2
 have hsum:∀ k,k<=L.length->0<=ZFn (L.take k)/\ZFn (L.take k)<=(k:Int)*1290000000:=by
  intro k;induction k with
  | zero=>intro _;exact ⟨Int.le_refl _,by show (0:Int)<=0*1290000000;omega⟩
  | succ k ih =>
   intro hk;have hx:L[k]?=some (L[k]'(by omega)):=List.getElem?_eq_getElem _;generalize L[k]'(by omega)=x at hx;have h1:=ih (by omega);have h2:=hpw x (List.mem_of_getElem? hx);have e:ZFn (L.take (k+1))=ZFn (L.take k)+Zj.Power x:=by
    rw[Yp hx];unfold ZFn;rw[List.map_append,List.sum_append];simp
   rw[e];omega
 refine Ya L.length (λk v=>v=(ZFn (L.take k),(k:Int),())) _ rfl ?_ ?_
 ·rintro k _ hk rfl
  left;have hx:L[k]?=some (L[k]'hk):=List.getElem?_eq_getElem _;generalize L[k]'hk=x at hx;have h1:=hsum k (by omega);have h2:=hpw x (List.mem_of_getElem? hx);refine ⟨(ZFn (L.take (k+1)),((k+1:Nat):Int),()),?_,rfl⟩;have e:ZFn (L.take (k+1))=ZFn (L.take k)+Zj.Power x:=by
   rw[Yp hx];unfold ZFn;rw[List.map_append,List.sum_append];simp
  simp only[ZEa];rw[if_pos (by omega),Zo,hx,Bq,Xj (by omega),XG (n:=ZFn (L.take k)+Zj.Power x) (by omega) (by omega),<-e];by_cases hk0:0<k
  ·have hy:L[k-1]?=some (L[k-1]'(by omega)):=List.getElem?_eq_getElem _
   generalize L[k-1]'(by omega)=y at hy;have hR:RS y x:=by
    obtain ⟨i1,q1⟩:=List.getElem?_eq_some_iff.1 hy;obtain ⟨i2,q2⟩:=List.getElem?_eq_some_iff.1 hx;have:=List.pairwise_iff_getElem.1 hso (k-1) k i1 i2 (by omega);rw[q1,q2] at this;exact this
   unfold RS at hR;rw[if_pos (by omega),XG (n:=(k:Int)-1) (by omega) (by omega),show (k:Int)-1=((k-1:Nat):Int) by omega,Zo,hy,Bq,if_neg (by omega)];by_cases c:Zj.Power y=Zj.Power x
   ·rw[if_pos c,if_neg (by omega)]
   ·rw[if_neg c]
  ·rw[if_neg (by omega)]
 rintro _ rfl;simp only[ZEa,Int.lt_irrefl,if_false];have hS:ZFn (L.take L.length)=P:=by
  rw[List.take_length,ZGo hp,ZFu,<-bA.2.2]
 have w1:Wq (P+I)=P+I:=XG (by omega) (by omega);have w2:Wq (P+I+K)=P+I+K:=XG (by omega) (by omega);have w3:Wq (P+I+K-1)=P+I+K-1:=XG (by omega) (by omega);simp only[hB,w1,w2,w3,Bq,hS];rw[if_pos (by simp)];simp only[if_true,decide_true,Int.le_refl];rw[show Decidable.decide (P+I+K<=P+I+K-1)=false from decide_eq_false (by omega),if_pos (show ((L.length:Nat):Int)=((Yc b:Nat):Int) by omega)];rfl
end Go.Proofs.YtioiomifapgimaaGreatDoor
