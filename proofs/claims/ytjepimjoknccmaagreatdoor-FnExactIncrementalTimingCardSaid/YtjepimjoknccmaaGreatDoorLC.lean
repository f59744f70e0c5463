/-
  Plain laws: links of arcs.
-/
import Derived.Test.YtjepimjoknccmaaGreatDoorLB
import Derived.Test.YtjepimjoknccmaaGreatDoorLA
namespace Go.Proofs.YtjepimjoknccmaaGreatDoor
set_option linter.unusedVariables false
set_option linter.unusedSimpArgs false
open Go Go.Sx
def VY (f t a b kind ix:Int):Zx:=(2*f+a,2*t+b,kind,ix,())
def trs (a:ZC):List (Int×Int×Unit) :=
  if Ge a=2 then [(0,0,()),(0,1,())] else if Ge a=3 then [(1,0,()),(1,1,())] else
    if Ge a=1 then (if GJ a=1 then [(0,0,()),(1,1,())] else if GJ a=2 then [(0,1,()),(1,0,())] else [(0,0,()),(0,1,()),(1,0,()),(1,1,())]) else []
theorem Ztq (a:ZC):Q9 a=some (trs a):=by
  unfold Q9 trs;repeat' split
  all_goals rfl
def ZsG (a:ZC) (f t ix:Int):List Zx:=(trs a).map (λp=>VY f t p.1 p.2.1 1 ix)
theorem Zw9 (l:List Zx) (f t a b kind ix:Int) (hl:l.length<=1048576) (hf:0<=f/\f<=1048576) (ht:0<=t/\t<=1048576) (ha:0<=a/\a<=1) (hb:0<=b/\b<=1) :
    Zax l f t a b kind ix=some (l++[VY f t a b kind ix]):=by
  unfold Zax VY;rw[Zg (by simp;omega),YZ (n:=2*f) (by omega) (by omega),YZ (n:=2*t) (by omega) (by omega),YZ (n:=2*f+a) (by omega) (by omega),YZ (n:=2*t+b) (by omega) (by omega)]
def ZEa (arc:ZC) (a b:Int):Bool :=
  if Ge arc=1 then (if GJ arc=3 then true else (decide (GJ arc=1) == decide (a=b))) else if Ge arc=2 then decide (a=0) else if Ge arc=3 then decide (a=1) else false
def ZoO (arc:ZC) (f t ix a b:Int):List Zx:=if ZEa arc a b=true then [VY f t a b 1 ix] else []
theorem ZxE (arc:ZC) (f t ix a b:Int) (l:List Zx) (hl:l.length<=1048576) (hf:0<=f/\f<=1048576) (ht:0<=t/\t<=1048576) (ha:0<=a/\a<=1) (hb:0<=b/\b<=1) :
    Zbk arc f t ix a l b=some (.inl (l++ZoO arc f t ix a b,b+1,())):=by
  unfold Zbk ZoO ZEa;rw[Uc (by omega),Zw9 l f t a b 1 ix hl hf ht ha hb,YZ (n:=b+1) (by omega) (by omega)];simp only[Bq];by_cases k1:Ge arc=1
  · simp only[k1,Uj]
    by_cases s3:GJ arc=3
    · simp only[s3,Uj]
    · simp only[s3,Uh]
      split
      · rfl
      · rw[Uo]
  by_cases k2:Ge arc=2
  · simp only[k2,Uj,Int.reduceEq,Uh,Uk]
    split
    · rfl
    · rw[Uo]
  by_cases k3:Ge arc=3
  · simp only[k3,Uj,Int.reduceEq,Uh,Uk]
    split
    · rfl
    · rw[Uo]
  · simp only[k1,k2,k3,Uh,Kf,Uo]
theorem Zq1 (arc:ZC) (f t ix a b:Int):(ZoO arc f t ix a b).length<=1:=by
  unfold ZoO;split<;>simp
theorem Zvl (arc:ZC) (f t ix a:Int) (l:List Zx) (hl:l.length<=1048000) (hf:0<=f/\f<=1048576) (ht:0<=t/\t<=1048576) (ha:0<=a/\a<=1) :
    Zq (λv=>Zbk arc f t ix a v.1 v.2.1) (l,(0:Int),())=some (.inl (l++ZoO arc f t ix a 0++ZoO arc f t ix a 1,a+1,())):=by
  have h1:=Zq1 arc f t ix a 0;have h2:=Zq1 arc f t ix a 1;rw[Xq (v':=(l++ZoO arc f t ix a 0,(0:Int)+1,())) (ZxE arc f t ix a 0 l (by omega) hf ht ha (by omega)),
    Xq (v':=(l++ZoO arc f t ix a 0++ZoO arc f t ix a 1,(0:Int)+1+1,())) (ZxE arc f t ix a (0+1) _ (by rw[Ug];omega) hf ht ha (by omega)),Xn]
  simp only[Zbk];rw[Ud (by omega),YZ (n:=a+1) (by omega) (by omega)]
theorem ZBX (arc:ZC) (f t ix:Int) (hs:Ge arc=1->1<=GJ arc/\GJ arc<=3):ZoO arc f t ix 0 0++ZoO arc f t ix 0 1++(ZoO arc f t ix 1 0++ZoO arc f t ix 1 1)=ZsG arc f t ix:=by
  unfold ZoO ZEa ZsG trs;by_cases k1:Ge arc=1
  · have h:=hs k1
    by_cases s1:GJ arc=1
    · simp[k1,s1]
    by_cases s2:GJ arc=2
    · simp[k1,s2]
    · have s3:GJ arc=3:=by omega
      simp[k1,s3]
  by_cases k2:Ge arc=2
  · simp[k2]
  by_cases k3:Ge arc=3
  · simp[k3]
  · simp[k1,k2,k3]
theorem Ztk (l:List Zx) (arc:ZC) (f t ix:Int) (hl:l.length<=1047000) (hf:0<=f/\f<=1048576) (ht:0<=t/\t<=1048576) (hs:Ge arc=1->1<=GJ arc/\GJ arc<=3) :
    ZkY l arc f t ix=some (l++ZsG arc f t ix):=by
  have h1:=Zq1 arc f t ix 0 0;have h2:=Zq1 arc f t ix 0 1;unfold ZkY;have s0:Jy arc f t ix l 0=some (.inl (l++ZoO arc f t ix 0 0++ZoO arc f t ix 0 1,0+1,())):=by
    unfold Jy;rw[Uc (by omega),Zvl arc f t ix 0 l (by omega) hf ht (by omega)]
  have s1:Jy arc f t ix (l++ZoO arc f t ix 0 0++ZoO arc f t ix 0 1) 1=some (.inl (l++ZoO arc f t ix 0 0++ZoO arc f t ix 0 1++ZoO arc f t ix 1 0++ZoO arc f t ix 1 1,1+1,())):=by
    unfold Jy;rw[Uc (by omega),Zvl arc f t ix 1 _ (by simp only[Ug];omega) hf ht (by omega)]
  rw[Xq (v':=(l++ZoO arc f t ix 0 0++ZoO arc f t ix 0 1,(1:Int),())) s0,Xq (v':=(l++ZoO arc f t ix 0 0++ZoO arc f t ix 0 1++ZoO arc f t ix 1 0++ZoO arc f t ix 1 1,(2:Int),())) s1,Xn (r:=l++ZsG arc f t ix)];simp only[Jy];rw[Ud (by omega),<-ZBX arc f t ix hs];simp only[Ul]
def ZyM (c:Zl) (f:Int):List Zx:=cat (λi a=>ZsG a (f+Gi a) (f+Gn a) (i:Int)) 0 (Gj c)
theorem Zu5 (a:ZC):(trs a).length<=4:=by
  unfold trs;repeat' split
  all_goals simp
theorem ZjU {b:Za} (h:YT b) {x:Ze} (hx:x∈K1 (KZ b)) (f:Int) (hf:0<=f/\f<=1000000) :
    ∃ c,(K8 (K4 b))[(Gx x).toNat]?=some c/\ZmC c/\Va b x f=some (ZyM c f):=by
  obtain ⟨hc,⟨c,hc1,hc2⟩,_⟩:=h.ok.1.2.2.1 x hx;have hC:=h.ok.1.1.2.1 c (Ue hc1);have hA:=hC.2.2.1.1;refine ⟨c,hc1,hC,?_⟩;unfold Va;rw[YD hc.1 hc1,Bq];refine Xr (l:=Gj c) (λi a=>ZsG a (f+Gi a) (f+Gn a) (i:Int)) [] (λk a ha hk=>?_) ?_
  · have hao:=(hC.2.2.1.2 k a ha).1
    have hpl:=hC.2.1.2.1;have hl:=ZaE (f:=λi a=>ZsG a (f+Gi a) (f+Gn a) (i:Int)) (c:=4) (l:=(Gj c).take k) (m:=0) (λi a _=>by simp only[ZsG,UL];exact Zu5 a);rw[Ui] at hl;simp only[Us,Qg,show (k:Int)<((Gj c).length:Int) from by omega,Uj,Zm,ha,Ztq,Bq];generalize cat (λi a=>ZsG a (f+Gi a) (f+Gn a) (i:Int)) 0 ((Gj c).take k)=acc at hl;have ht4:=Zu5 a;have htr:∀ p∈trs a,(0<=p.1/\p.1<=1)/\(0<=p.2.1/\p.2.1<=1):=by
      intro p hp;unfold trs at hp;repeat' split at hp
      all_goals (simp only[UT,KM,or_false] at hp)
      all_goals first | (rcases hp with rfl | rfl | rfl | rfl<;>simp) | (rcases hp with rfl | rfl<;>simp) | exact hp.elim
    have h1:=hao.1;have h2:=hao.2.1;refine (Xr (l:=trs a) (ρ:=(List Zx×Int×Unit) ⊕ List Zx) (λ_ p=>[VY (f+Gi a) (f+Gn a) p.1 p.2.1 1 (k:Int)]) acc (good:=.inl (acc++ZsG a (f+Gi a) (f+Gn a) (k:Int),((k+1:Nat):Int),())) (λj p hp hj=>?_) ?_)
    · have hp2:=htr p (Ue hp)
      have hl2:=ZaE (f:=λ(_:Nat) (p:Int×Int×Unit)=>[VY (f+Gi a) (f+Gn a) p.1 p.2.1 1 (k:Int)]) (c:=1) (l:=(trs a).take j) (m:=0) (λ_ _ _=>by simp);rw[Ui] at hl2;simp only[Xt,show (j:Int)<((trs a).length:Int) from by omega,Uj,Zm,hp,Bq];rw[Zg (by rw[Ug,Un];omega),Y4 (by omega),YZ (n:=f+Gi a) (by omega) (by omega),YZ (n:=f+Gn a) (by omega) (by omega),YZ (n:=2*(f+Gi a)) (by omega) (by omega),YZ (n:=2*(f+Gn a)) (by omega) (by omega),YZ (n:=2*(f+Gi a)+p.1) (by omega) (by omega),YZ (n:=2*(f+Gn a)+p.2.1) (by omega) (by omega)];rfl
    · have e:cat (λ(_:Nat) (p:Int×Int×Unit)=>[VY (f+Gi a) (f+Gn a) p.1 p.2.1 1 (k:Int)]) 0 (trs a)=ZsG a (f+Gi a) (f+Gn a) (k:Int):=by
        unfold ZsG;generalize trs a=l;have:∀ (m:Nat),cat (λ(_:Nat) (p:Int×Int×Unit)=>[VY (f+Gi a) (f+Gn a) p.1 p.2.1 1 (k:Int)]) m l=l.map (λp=>VY (f+Gi a) (f+Gn a) p.1 p.2.1 1 (k:Int)):=by
          induction l with
          | nil=>intro m;rfl
          | cons p r ih=>intro m;simp[cat,ih]
        exact this 0
      simp only[Xt,Uf,Uh,e];rw[Y4 (by omega)]
  · simp only[Us,Qg,Uf,Uh];rfl
theorem Zst (d:Zb) (i j:Int) (h:Few d):ZeY d i j=some (JB (λx:Pl=>decide (x.1=i)&&decide (x.2.1=j)) (places d)):=by
  have hpl:=Z0 h;unfold ZeY;rw[Yg d h,Bq];refine X5 (out:=λi=>i) (show Len (places d) by show List.length _<=_;omega) (λk x hx=>?_) ?_
  · have hk:=(Ub.1 hx).1
    simp only[ZfF,show (k:Int)<((places d).length:Int) from by omega,Uj,Zm,hx,Bq,Ur,Uk];split
    · rename_i e1
      split
      · rename_i e2;rw[Uc ⟨e1,e2⟩]
      · rename_i e2;rw[Ud (λq=>e2 q.2)]
    · rename_i e1;rw[Ud (λq=>e1 q.1)]
  · simp only[ZfF,Uf,Uh]
theorem Zt1 {α β:Type} {g:Nat->α->β}:∀ {l:List α} {m j:Nat},(cat (λj n=>[g j n]) m l)[j]?=(l[j]?).map (g (m+j))
  | [],m,j=>by simp[cat]
  | x::r,m,0=>by simp[cat]
  | x::r,m,j+1=>by
    simp only[cat,U0,Us,U8];rw[Zt1 (l:=r) (m:=m+1) (j:=j),show m+1+j=m+(j+1) by omega]
theorem Znd {α β:Type} {g:Nat->α->β}:∀ {l:List α} {m:Nat},(cat (λj n=>[g j n]) m l).length=l.length
  | [],m=>rfl
  | x::r,m=>by simp[cat,Znd (l:=r)]
theorem Zdd (i:Nat) (x:Ze):(YH i x).length=(Gb x).length:=by unfold YH;rw[Znd]
def fst (d:Zb) (i:Nat):Nat:=(cat YH 0 ((K1 d).take i)).length
theorem ZCr {d:Zb} {i:Nat} {x:Ze} (hx:(K1 d)[i]?=some x):fst d (i+1)=fst d i+(Gb x).length:=by
  unfold fst;rw[Zcg hx,Ug,Zdd]
theorem ZlY {d:Zb} {i:Nat} {x:Ze} (hx:(K1 d)[i]?=some x):∃ B,places d=cat YH 0 ((K1 d).take i)++(YH i x++B):=by
  have hi:=Ub.1 hx;have e:K1 d=(K1 d).take i++(x::(K1 d).drop (i+1)):=by
    rw[<-hi.2,<-Ka hi.1,Ki]
  refine ⟨cat YH (i+1) ((K1 d).drop (i+1))++cat Zba 0 (Ga d),?_⟩;unfold places
  conv=>lhs;rw[e]
  rw[ZeK];have hl:((K1 d).take i).length=i:=by rw[Ui];have:=hi.1;omega
  rw[hl,Uw];simp only[cat,Ul]
theorem ZxW {d:Zb} (h:Few d) {i j:Nat} {x:Ze} (hx:(K1 d)[i]?=some x) (hj:j<(Gb x).length) :
    ZeY d (i:Int) (j:Int)=some ((fst d i:Int)+(j:Int)):=by
  rw[Zst d _ _ h];obtain ⟨B,hB⟩:=ZlY hx;congr 1;have hn:(Gb x)[j]?=some (Gb x)[j]:=Ua hj;have hat:∀ (q:Nat) (y:Pl),(YH i x)[q]?=some y->y.1=(i:Int)/\y.2.1=(q:Int):=by
    intro q y hy;unfold YH at hy;rw[Zt1,Uw] at hy;simp only[KC] at hy;obtain ⟨n,_,rfl⟩:=hy;exact ⟨rfl,rfl⟩
  have hex:∃ y,(YH i x)[j]?=some y:=⟨_,Ua (by rw[Zdd];exact hj)⟩;obtain ⟨y,hy⟩:=hex;have hy2:=hat j y hy;have:=Zp4 (p:=λx:Pl=>decide (x.1=(i:Int))&&decide (x.2.1=(j:Int))) (l:=places d) (k:=fst d i+j) (x:=y)
    (by
      rw[hB,Uv (by unfold fst;omega),show fst d i+j-(cat YH 0 ((K1 d).take i)).length=j by unfold fst;omega,Uq (by rw[Zdd];exact hj)];exact hy)
    (by simp[hy2.1,hy2.2])
    (λq z hq hz=>by
      rw[hB] at hz;by_cases hqA:q<(cat YH 0 ((K1 d).take i)).length
      · rw[Uq hqA] at hz
        obtain ⟨i',x',hi',hz'⟩:=X8.1 (Ue hz);have hlt:i'<i:=by
          have:=(Ub.1 hi').1;rw[Ui] at this;omega
        rw[Uw] at hz';have:z.1=(i':Int):=by
          unfold YH at hz';obtain ⟨j',n,_,hn'⟩:=X8.1 hz';simp only[Uu] at hn';rw[hn']
        have hne:¬z.1=(i:Int):=by omega
        simp[hne]
      · have hq2:q-(cat YH 0 ((K1 d).take i)).length<j:=by unfold fst at hq;omega
        rw[Uv (by omega),Uq (by rw[Zdd];omega)] at hz;have:=(hat _ _ hz).2;have hne:¬z.2.1=(j:Int):=by omega
        simp[hne])
  rw[this];omega
def Zqp (b:Za) (i:Nat) (x:Ze):List Zx:=match (K8 (K4 b))[(Gx x).toNat]? with
  | some c=>ZyM c (fst (KZ b) i:Int)
  | none=>[]
def Zn7 (b:Za):List Zx:=cat (Zqp b) 0 (K1 (KZ b))
theorem Zvm (c:Zl) (f:Int) (h:(Gj c).length<=8):(ZyM c f).length<=32:=by
  have:=ZaE (f:=λi a=>ZsG a (f+Gi a) (f+Gn a) (i:Int)) (c:=4) (l:=Gj c) (m:=0) (λi a _=>by simp only[ZsG,UL];exact Zu5 a);unfold ZyM;omega
theorem ZDw {d:Zb} (h:Few d) (i:Nat):fst d i<=70:=ZeL h i
theorem ZAv {b:Za} (h:YT b) (i:Nat) (x:Ze) (hx:x∈K1 (KZ b)):(Zqp b i x).length<=32:=by
  obtain ⟨c,h1,h2,_⟩:=ZjU h hx 0 (by omega);unfold Zqp;rw[h1];exact Zvm c _ h2.2.2.1.1
theorem Zko {b:Za} (h:YT b) (k:Nat):(cat (Zqp b) 0 ((K1 (KZ b)).take k)).length<=448:=by
  have h1:=h.ok.1.few.insts;have:=ZaE (f:=Zqp b) (c:=32) (l:=(K1 (KZ b)).take k) (m:=0) (λi x hx=>ZAv h i x (List.mem_of_mem_take hx));rw[Ui] at this;omega
theorem Zwa {b:Za} (h:YT b) {i:Nat} {x:Ze} (hx:(K1 (KZ b))[i]?=some x) {c:Zl} (hc:(K8 (K4 b))[(Gx x).toNat]?=some c) (acc:List Zx) (ha:acc.length<=100000) :
    Zq (λv=>ZbM b (i:Int) c v.1 v.2.1) (acc,(0:Int),())=some (.inl (acc++ZyM c (fst (KZ b) i:Int),((i+1:Nat):Int),())):=by
  have hf:=h.ok.1.few;have hi:=(Ub.1 hx).1;have h14:=hf.insts;have hxm:=Ue hx;obtain ⟨_,⟨c',hc1,hc2⟩,_⟩:=h.ok.1.2.2.1 x hxm;rw[hc] at hc1;injection hc1 with hc1;subst hc1
  have hC:=h.ok.1.1.2.1 c (Ue hc);have hA:=hC.2.2.1.1;have hpn:=hC.2.1.2.1;have h70:=ZDw hf i;refine Xr (l:=Gj c) (λk a=>ZsG a ((fst (KZ b) i:Int)+Gi a) ((fst (KZ b) i:Int)+Gn a) (k:Int)) acc (λk a hka hk=>?_) ?_
  · have hao:=(hC.2.2.1.2 k a hka).1
    have hl:=ZaE (f:=λk a=>ZsG a ((fst (KZ b) i:Int)+Gi a) ((fst (KZ b) i:Int)+Gn a) (k:Int)) (c:=4) (l:=(Gj c).take k) (m:=0) (λi a _=>by simp only[ZsG,UL];exact Zu5 a);rw[Ui] at hl;simp only[ZbM,show (k:Int)<((Gj c).length:Int) from by omega,Uj,Zm,hka,Bq];generalize cat (λk a=>ZsG a ((fst (KZ b) i:Int)+Gi a) ((fst (KZ b) i:Int)+Gn a) (k:Int)) 0 ((Gj c).take k)=acc2 at hl;have h1:=hao.1;have h2:=hao.2.1;by_cases hk3:Ge a<=3
    · have e1:=ZxW hf hx (j:=(Gi a).toNat) (by omega)
      have e2:=ZxW hf hx (j:=(Gn a).toNat) (by omega);rw[show ((Gi a).toNat:Int)=Gi a by omega] at e1;rw[show ((Gn a).toNat:Int)=Gn a by omega] at e2;rw[Uc hk3,e1,Bq,e2,Bq,Ztk _ a _ _ _ (by rw[Ug];omega) (by omega) (by omega) (λhk1=>by
        rcases hao.2.2 with hh | hh | hh
        · exact hh.2.2.2.1
        · have:=hh.1;omega
        · have:=hh.1;omega),Bq,Y4 (by omega)]
    · rw[Ud hk3,Y4 (by omega)]
      have e:ZsG a ((fst (KZ b) i:Int)+Gi a) ((fst (KZ b) i:Int)+Gn a) (k:Int)=[]:=by
        unfold ZsG trs;rw[Ud (by omega),Ud (by omega),Ud (by omega)];rfl
      rw[e,Uo]
  · simp only[ZbM,Uf,Uh]
    rw[Y4 (by omega)];rfl
def ZBR (d:Zb) (n:Int):List Zx:=cat (λj s=>[VY (Zls d n) s 0 0 2 (j:Int),VY (Zls d n) s 1 1 2 (j:Int)]) 0 (sinks d n)
theorem ZCO {d:Zb} (h:Few d) (n:Int):(ZBR d n).length<=156:=by
  have h1:=ZaE (f:=λj s=>[VY (Zls d n) s 0 0 2 (j:Int),VY (Zls d n) s 1 1 2 (j:Int)]) (c:=2) (l:=sinks d n) (m:=0) (λ_ _ _=>by simp);have h2:=Zbb n (places d) 0;have h3:=Z0 h;unfold ZBR;have:(sinks d n).length<=78:=by unfold sinks;omega
  omega
theorem Zvp {α β γ:Type} (f:Nat->List γ):∀ (l:List α) (r:List β) (m:Nat),l.length=r.length->cat (λk _=>f k) m l=cat (λk _=>f k) m r
  | [],[],_,_=>rfl
  | [],_::_,_,h=>by simp at h
  | _::_,[],_,h=>by simp at h
  | _::l,_::r,m,h=>by simp only[cat];rw[Zvp f l r (m+1) (by simpa using h)]
def Zyo (b:Za):List Zx:=cat (λv _=>ZBR (KZ b) (v:Int)) 0 (K2 b)
def Zy (b:Za):List Zx:=Zn7 b++Zyo b
theorem Znc {b:Za} (h:YT b) {α:Type} (l:List α):(cat (λv _=>ZBR (KZ b) (v:Int)) 0 l).length<=156*l.length :=
  ZaE (f:=λv _=>ZBR (KZ b) (v:Int)) (c:=156) (l:=l) (m:=0) (λv _ _=>ZCO h.ok.1.few _)
theorem Zkz {b:Za} (h:YT b):(Zn7 b).length<=448:=by
  have:=Zko h (K1 (KZ b)).length;rw[Um] at this;exact this
theorem ZxK {b:Za} (h:YT b) {v:Nat} (hv:v<(K6 (KZ b)).length):0<=Zls (KZ b) (v:Int)/\Zls (KZ b) (v:Int)<((places (KZ b)).length:Int):=by
  obtain ⟨q,y,hq,_,e,_⟩:=ZAd h.ok.1 (JK h.sm).2.1 hv;have:=(Ub.1 hq).1;rw[e];omega
theorem Zhd {b:Za} (h:YT b):Zdq b=some (Zy b):=by
  have hf:=h.ok.1.few;have h14:=hf.insts;have h30:=h.ok.1.2.1.2.1;have hpl:=Z0 hf;unfold Zdq;refine Xr (l:=K1 (KZ b)) (Zqp b) [] (λi x hx hi=>?_) ?_
  · have hxm:=Ue hx
    obtain ⟨hc,⟨c,hc1,hc2⟩,_⟩:=h.ok.1.2.2.1 x hxm;have hl:=Zko h i;simp only[Us,ZeJ,show (i:Int)<((K1 (KZ b)).length:Int) from by omega,Uj,Zm,hx,Bq,YD hc.1 hc1];rw[Zwa h hx hc1 _ (by omega)];have e:Zqp b i x=ZyM c (fst (KZ b) i:Int):=by unfold Zqp;rw[hc1]
    rw[e]
  · have hil:=Zkz h
    simp only[Us,ZeJ,Uf,Uh];refine Xr (l:=K6 (KZ b)) (λv _=>ZBR (KZ b) (v:Int)) (Zn7 b) (ρ:=(List Zx×Int×Unit) ⊕ List Zx) (good:=.inr (Zy b)) (λv s hs hv=>?_) ?_
    · have hdr:=ZxK h hv
      have hl:=Znc h ((K6 (KZ b)).take v);rw[Ui] at hl;have e1:ZdS (KZ b) (v:Int)=some (Zls (KZ b) (v:Int)):=ZpP _ _ hf;simp only[ZeI,show (v:Int)<((K6 (KZ b)).length:Int) from by omega,Uj,e1,Bq,XZ _ _ hf];have hsl:(sinks (KZ b) (v:Int)).length<=78:=by
        have:=Zbb (v:Int) (places (KZ b)) 0;unfold sinks;omega
      generalize hacc:Zn7 b++cat (λv _=>ZBR (KZ b) (v:Int)) 0 ((K6 (KZ b)).take v)=acc;have hal:acc.length<=10000:=by rw[<-hacc,Ug];omega
      refine Xr (l:=sinks (KZ b) (v:Int)) (λj s=>[VY (Zls (KZ b) (v:Int)) s 0 0 2 (j:Int),VY (Zls (KZ b) (v:Int)) s 1 1 2 (j:Int)]) acc (λj y hy hj=>?_) ?_
      · have hyb:=ZlT (Ue hy)
        have hl2:=ZaE (f:=λj s=>[VY (Zls (KZ b) (v:Int)) s 0 0 2 (j:Int),VY (Zls (KZ b) (v:Int)) s 1 1 2 (j:Int)]) (c:=2) (l:=(sinks (KZ b) (v:Int)).take j) (m:=0) (λ_ _ _=>by simp);rw[Ui] at hl2;simp only[ZeH,show (j:Int)<((sinks (KZ b) (v:Int)).length:Int) from by omega,Uj,Zm,hy,Bq];rw[Zw9 _ _ _ _ _ _ _ (by rw[Ug];omega) (by omega) (by omega) (by omega) (by omega),Bq,Zw9 _ _ _ _ _ _ _ (by simp only[Ug,Un];omega) (by omega) (by omega) (by omega) (by omega),Bq,Y4 (by omega)];simp only[Ul,U0,Us]
      · simp only[ZeH,Uf,Uh]
        rw[Y4 (by omega)];rfl
    · simp only[ZeI,Uf,Uh]
      rw[Zvp (λv=>ZBR (KZ b) (v:Int)) (K6 (KZ b)) (K2 b) 0 h.ok.2.1.symm];rfl
structure Stand (d:Zb) (n k:Nat) (l0:List Int) (l1:List (List Int)):Prop where
  n0:l0.length=n
  n1:l1.length=n
  drv:∀ (v q:Nat) (y:Pl),v<n->q<k->(places d)[q]?=some y->ZyT (v:Int) y=true->l0[v]?=some (q:Int)
  snk:∀ (v:Nat),v<n->l1[v]?=some (cat (Ji (v:Int)) 0 ((places d).take k))
noncomputable def ldF (b:Za) (v:Nat):Int:=((YW b (v:Int)).bind (λr=>r[0]?)).getD 0
noncomputable def edF (b:Za) (v:Nat):List Int:=(XG b (v:Int)).getD []
theorem Zw6 {b:Za} (h:YT b):∃ v,Jl b=some v/\ZO.places v=places (KZ b)/\GY v=b/\ZO.links v=Zy b/\ZO.loads v=(List.range (K2 b).length).map (ldF b)/\ZO.Zk7 v=(List.range (K2 b).length).map (edF b)/\ZO.extras v=[]:=by
  have hD:=h.ok.1;have hf:=hD.few;have hsd:=(JK h.sm).2.1;have hpl:=Z0 hf;have h14:=hf.insts;have hwn:=h.ok.2.1;have h30:=hD.2.1.2.1;have hil:=Zkz h;unfold Jl;rw[ZN _ hf,Bq];refine Zf5 (l:=K1 (KZ b)) (λk v=>v.1=((fst (KZ b) k:Nat):Int)/\v.2.1=(k:Int)/\v.2.2.1=cat (Zqp b) 0 ((K1 (KZ b)).take k)) _ ⟨rfl,rfl,rfl⟩ ?_ ?_
  · rintro k x ⟨n,i,c,⟨⟩⟩ hx hk ⟨hn,hi,hc⟩
    simp only at hn hi hc;subst hi;subst hn;subst hc;have h70:=ZDw hf k;have hl:=Zko h k;obtain ⟨c,h1,h2,h3⟩:=ZjU h (Ue hx) ((fst (KZ b) k:Nat):Int) (by omega);have hal:=Zvm c ((fst (KZ b) k:Nat):Int) h2.2.2.1.1;have hnx:=hf.nets x (Ue hx);simp only[Zah,show (k:Int)<((K1 (KZ b)).length:Int) from by omega,Uj,Zm,hx,h3,Bq,Vf];rw[Zg (by omega)];refine ⟨_,rfl,?_,?_,?_⟩
    · simp only;rw[YZ (by omega) (by omega),ZCr hx];omega
    · simp only;rw[Y4 (by omega)]
    · simp only
      rw[Zcg hx];congr 1;unfold Zqp;rw[h1]
  · rintro ⟨n,i,c0,⟨⟩⟩ ⟨_,hi,hc0⟩
    simp only at hi hc0;subst hi;rw[Um] at hc0;have hc0l:c0.length<=448:=by rw[hc0];exact hil
    simp only[Zah,Uf,Uh];rw[Zg (by omega),Zg (by omega),Zg (by omega),Zg (by omega),Zg (by omega)];obtain ⟨r,hr1,r',rfl,hr2⟩:=Zf5 (l:=places (KZ b)) (ρ:=(Int×Int×List Zx×Unit) ⊕ ZO) (step:=λv=>Q0 b (places (KZ b)) c0 v.1 v.2.1 v.2.2.1) (v:=((0:Int),List.replicate (Int.toNat (↑(List.length (K2 b)):Int)) (0:Int),List.replicate (Int.toNat (↑(List.length (K2 b)):Int)) (([]:List Int)),()))
      (λk v=>v.1=(k:Int)/\Stand (KZ b) (K2 b).length k v.2.1 v.2.2.1)
      (λr=>∃ r',r=.inr r'/\ZO.places r'=places (KZ b)/\GY r'=b/\ZO.links r'=Zy b/\ZO.loads r'=(List.range (K2 b).length).map (ldF b)/\ZO.Zk7 r'=(List.range (K2 b).length).map (edF b)/\ZO.extras r'=[])
      ⟨rfl,by simp,by simp,λv q y _ hq=>by omega,λv hv=>by
        rw[Ku];simp only[cat];rw[Kc,Uc (by omega)]⟩
      (by
        rintro k x ⟨i,l0,l1,⟨⟩⟩ hx hk ⟨hi,hS⟩;simp only at hi hS;subst hi;have hn:=JH hD (Ue hx);have hn1:=hn.2;have hn00:0<=x.2.2.1:=hn.1;have htn:ZH.net x=x.2.2.1:=rfl;simp only[Q0,show (k:Int)<((places (KZ b)).length:Int) from by omega,Uj,Zm,hx,Bq];have hn0:=hS.n0;have hn2:=hS.n1;obtain ⟨q,hq1,_⟩:=Zkn (l:=l0) hn.1 (by omega);obtain ⟨p,hp1,_⟩:=Zkn (l:=l1) hn.1 (by omega);have hpv:p=cat (Ji x.2.2.1) 0 ((places (KZ b)).take k):=by
          have e:=hS.snk (x.2.2.1).toNat (by omega);have e2:l1[(x.2.2.1).toNat]?=some p:=by
            have:=hp1;unfold atI at this;rw[Uc hn.1] at this;exact this
          rw[e] at e2;injection e2 with e2
          rw[<-e2,show (((x.2.2.1).toNat:Nat):Int)=x.2.2.1 by omega]
        have hpl2:p.length<=78:=by
          rw[hpv];have:=Zbb x.2.2.1 ((places (KZ b)).take k) 0;rw[Ui] at this;omega
        by_cases hd:x.2.2.2.1=true
        · rw[Uc hd,show atI l0 (ZH.net x)=some q from hq1,Bq]
          refine ⟨_,rfl,by simp only;rw[Y4 (by omega)],?_,?_,?_,?_⟩
          · simp[hn0]
          · exact hn2
          · intro v p' y hv hp' hy hdy
            simp only;rw[UQ];by_cases hnet:(ZH.net x).toNat=v
            · rw[Uc hnet,Uc (by omega)]
              obtain ⟨q',_,_,_,_,uniq⟩:=ZAd hD hsd (v:=v) (by omega);have hxd:ZyT (v:Int) x=true:=by
                unfold ZyT;have:x.2.2.1=(v:Int):=by rw[<-hnet];show x.2.2.1=((x.2.2.1).toNat:Int);omega
                simp[this,hd]
              have e1:=uniq k x hx hxd;have e2:=uniq p' y hy hdy;rw[e1,e2]
            · rw[Ud hnet]
              have hpk:p'≠k:=by
                intro e;subst e;rw[hx] at hy;injection hy with hy
                subst hy;unfold ZyT at hdy;simp only[Ur,Uk] at hdy;exact hnet (by show (x.2.2.1).toNat=v;omega)
              exact hS.drv v p' y hv (by omega) hy hdy
          · intro v hv
            simp only;rw[hS.snk v hv,Zcg hx];congr 1;have:Ji (v:Int) k x=[]:=by
              unfold Ji;rw[Uc hd];split<;>rfl
            rw[this,Uo]
        · rw[Ud hd,show atI l1 (ZH.net x)=some p from hp1,Bq,Zg (by simp;omega)]
          refine ⟨_,rfl,by simp only;rw[Y4 (by omega)],hn0,?_,?_,?_⟩
          · simp[hn2]
          · intro v p' y hv hp' hy hdy
            have hpk:p'≠k:=by
              intro e;subst e;rw[hx] at hy;injection hy with hy
              subst hy;unfold ZyT at hdy;simp only[Ur] at hdy;exact hd hdy.2
            exact hS.drv v p' y hv (by omega) hy hdy
          · intro v hv
            simp only;rw[UQ,Zcg hx];by_cases hnet:(ZH.net x).toNat=v
            · have hxv:x.2.2.1=(v:Int):=by rw[<-hnet];show x.2.2.1=((x.2.2.1).toNat:Int);omega
              rw[Uc hnet,Uc (by omega),hpv,hxv];unfold Ji;rw[Uc hxv,Ud hd]
            · have hxv:¬x.2.2.1=(v:Int):=λe=>hnet (by show (x.2.2.1).toNat=v;omega)
              rw[Ud hnet,hS.snk v hv];have:Ji (v:Int) k x=[]:=by unfold Ji;rw[Ud hxv]
              rw[this,Uo])
      (by
        rintro ⟨i,l0,l1,⟨⟩⟩ ⟨hi,hS⟩;simp only at hi hS;subst hi;simp only[Q0,Uf,Uh];have hS0:=hS.n0;obtain ⟨r,hr1,r',rfl,hr2⟩:=Zf5 (l:=K2 b) (ρ:=(Int×List Int×List (List Int)×Unit) ⊕ ((Int×Int×List Zx×Unit) ⊕ ZO)) (step:=λv=>QZ b (places (KZ b)) l0 v.1 v.2.1 v.2.2.1 v.2.2.2.1 v.2.2.2.2.1) (v:=((0:Int),([]:List Int),([]:List (List Int)),c0,l1,()))
          (λk v=>v.1=(k:Int)/\v.2.1=(List.range k).map (ldF b)/\v.2.2.1=(List.range k).map (edF b)/\v.2.2.2.1=c0++cat (λv _=>ZBR (KZ b) (v:Int)) 0 ((K2 b).take k)/\v.2.2.2.2.1=l1)
          (λr=>∃ r',r=.inr (.inr r')/\ZO.places r'=places (KZ b)/\GY r'=b/\ZO.links r'=Zy b/\ZO.loads r'=(List.range (K2 b).length).map (ldF b)/\ZO.Zk7 r'=(List.range (K2 b).length).map (edF b)/\ZO.extras r'=[])
          ⟨rfl,rfl,rfl,by simp[cat],rfl⟩
          (by
            rintro k w ⟨i,c1,c2,c3,l2,⟨⟩⟩ hw hk ⟨hi,g1,g2,g3,g4⟩;simp only at hi g1 g2 g3 g4;subst hi;subst g4;have hc3:c3.length<=5200:=by
              have:=Znc h ((K2 b).take k);rw[Ui] at this;rw[g3,Ug];omega
            obtain ⟨nl,hnl,hnl2⟩:=ZkI h hw;obtain ⟨ed,hed,hed2⟩:=ZlF h hw;have hpar:=(h.ok.2.2 k w hw).1.1;have g1l:c1.length=k:=by rw[g1];simp
            have g2l:c2.length=k:=by rw[g2];simp
            have hld:ldF b k=nl[0]:=by
              unfold ldF;rw[hnl,Bq,Ua (by omega)];rfl
            have hedf:edF b k=ed:=by
              unfold edF;rw[hed];rfl
            have hn0:atI nl (0:Int)=some nl[0]:=(show nl[0]?=some nl[0] from Ua (by omega));have hl2:=hS.snk k hk;rw[Um] at hl2;obtain ⟨dq,dy,hdq,hdy,hdo,_⟩:=ZAd hD hsd (v:=k) (by omega);have hl0:=hS.drv k dq dy hk (Ub.1 hdq).1 hdq hdy;have hdl:=(Ub.1 hdq).1;have hl2':l2[k]?=some (sinks (KZ b) (k:Int)):=hl2;have hsl:(sinks (KZ b) (k:Int)).length<=78:=by
              have:=Zbb (k:Int) (places (KZ b)) 0;unfold sinks;omega
            simp only[QZ,show (k:Int)<((K2 b).length:Int) from by omega,Uj,hnl,hn0,hed,Bq,Zm,hl2'];rw[Zg (by simp;omega),Zg (by simp;omega)];obtain ⟨r,hr1,r',rfl,hr2⟩:=Zf5 (l:=sinks (KZ b) (k:Int)) (ρ:=(Int×List Int×List (List Int)×List Zx×List (List Int)×Unit) ⊕ ((Int×List Int×List (List Int)×Unit) ⊕ ((Int×Int×List Zx×Unit) ⊕ ZO))) (step:=λv=>QY l0 (k:Int) c1 c2 l2 nl[0] ed (sinks (KZ b) (k:Int)) v.1 v.2.1) (v:=((0:Int),c3,()))
              (λm v=>v.1=(m:Int)/\v.2.1=c3++cat (λj s=>[VY (Zls (KZ b) (k:Int)) s 0 0 2 (j:Int),VY (Zls (KZ b) (k:Int)) s 1 1 2 (j:Int)]) 0 ((sinks (KZ b) (k:Int)).take m))
              (λr=>∃ r',r=.inl r'/\r'.1=((k+1:Nat):Int)/\r'.2.1=(List.range (k+1)).map (ldF b)/\r'.2.2.1=(List.range (k+1)).map (edF b)/\r'.2.2.2.1=c0++cat (λv _=>ZBR (KZ b) (v:Int)) 0 ((K2 b).take (k+1))/\r'.2.2.2.2.1=l2)
              ⟨rfl,by simp[cat]⟩
              (by
                rintro m y ⟨i,c4,⟨⟩⟩ hy hm ⟨hi,gc⟩;simp only at hi gc;subst hi;have hyb:=ZlT (Ue hy);have hc4:c4.length<=6000:=by
                  have:=ZaE (f:=λj s=>[VY (Zls (KZ b) (k:Int)) s 0 0 2 (j:Int),VY (Zls (KZ b) (k:Int)) s 1 1 2 (j:Int)]) (c:=2) (l:=(sinks (KZ b) (k:Int)).take m) (m:=0) (λ_ _ _=>by simp);rw[Ui] at this;rw[gc,Ug];omega
                simp only[QY,show (m:Int)<((sinks (KZ b) (k:Int)).length:Int) from by omega,Uj,Zm,hy,Bq];have st:∀ (j:Nat) (c5:List Zx),j<2->c5.length<=6100->Qn l0 (k:Int) (m:Int) y (j:Int) c5=some (.inl (((j+1:Nat):Int),c5++[VY (dq:Int) y (j:Int) (j:Int) 2 (m:Int)],())):=by
                  intro j c5 hj hc5;simp only[Qn,show (j:Int)<(2:Int) from by omega,Uj,Zm,hl0,Bq];rw[Zg (by simp;omega),YZ (n:=2*(dq:Int)) (by omega) (by omega),YZ (n:=2*(dq:Int)+(j:Int)) (by omega) (by omega),YZ (n:=2*y) (by omega) (by omega),YZ (n:=2*y+(j:Int)) (by omega) (by omega),Y4 (by omega)];rfl
                have s0:=st 0 c4 (by omega) (by omega);have s1:=st 1 (c4++[VY (dq:Int) y ((0:Nat):Int) ((0:Nat):Int) 2 (m:Int)]) (by omega) (by simp;omega);have hw2:Zq (λv=>Qn l0 (k:Int) (m:Int) y v.1 v.2.1) ((0:Int),c4,())=some (.inl (((m+1:Nat):Int),c4++[VY (dq:Int) y ((0:Nat):Int) ((0:Nat):Int) 2 (m:Int)]++[VY (dq:Int) y ((1:Nat):Int) ((1:Nat):Int) 2 (m:Int)],())):=by
                  rw[Xq (v':=(((0+1:Nat):Int),c4++[VY (dq:Int) y ((0:Nat):Int) ((0:Nat):Int) 2 (m:Int)],())) s0,Xq (v':=(((1+1:Nat):Int),c4++[VY (dq:Int) y ((0:Nat):Int) ((0:Nat):Int) 2 (m:Int)]++[VY (dq:Int) y ((1:Nat):Int) ((1:Nat):Int) 2 (m:Int)],())) s1,Xn];simp only[Qn];rw[Ud (by omega),Y4 (by omega)]
                refine ⟨_,hw2,rfl,?_⟩;simp only;rw[gc,Zcg hy,hdo];simp only[Ul,U0,Us,Int.natCast_zero,Int.natCast_one])
              (by
                rintro ⟨i,c4,⟨⟩⟩ ⟨hi,gc⟩;simp only at hi gc;subst hi;rw[Um] at gc;simp only[QY,Uf,Uh];refine ⟨_,rfl,_,rfl,by simp only;rw[Y4 (by omega)],by simp only;rw[g1,List.range_succ,UV,List.map_singleton,hld],by simp only;rw[g2,List.range_succ,UV,List.map_singleton,hedf],?_,?_⟩
                · simp only
                  rw[gc,g3,Zcg hw,Ul];rfl
                · simp only
                  apply UD;intro i;rw[UQ];split
                  · rename_i e
                    have e:k=i:=by simpa using e
                    subst e;rw[hl2'];split
                    · rfl
                    · rename_i hlt
                      exact absurd (by have:=hS.n1;simpa using (show k<l2.length by omega)) hlt
                  · rfl)
            exact ⟨r',hr1,hr2⟩)
          (by
            rintro ⟨i,c1,c2,c3,l2,⟨⟩⟩ ⟨hi,g1,g2,g3,g4⟩;simp only at hi g3;subst hi;rw[Um] at g3;simp only[QZ,Uf,Uh];refine ⟨_,rfl,_,rfl,rfl,rfl,?_,g1,g2,rfl⟩;show c3=Zy b;rw[g3,hc0];rfl)
        exact ⟨_,hr1,_,rfl,hr2⟩)
    exact ⟨r',hr1,hr2⟩
def ZgS (n:Nat) (br:List Int):List Bool:=(List.range n).map (λ(k:Nat)=>!decide ((k:Int)∈br))
theorem Zie (n:Nat) (br:List Int):(ZgS n br).length=n:=by simp[ZgS]
theorem Ztl (l:List Int) (x:Int) (hl:l.length<=1048576):ZkZ l x=some (decide (x∈l)):=by
  unfold ZkZ;rw[X5 (l:=l) (p:=λy=>decide (y=x)) (out:=λi=>decide (0<=i)) (show List.length _<=_ by omega) (λk y hy=>by
    have hk:=(Ub.1 hy).1;simp only[Zge,show (k:Int)<(l.length:Int) from by omega,Uj,Zm,hy,Bq,Uk];split
    · rw[UX (by omega)]
    · rfl) (by simp only[Zge,Uf,Uh];rfl)]
  congr 1;rw[Km,Qw,Kx];constructor
  · rintro ⟨y,hy,e⟩;simp at e;subst e;exact hy
  · intro h;exact ⟨x,h,by simp⟩
theorem Zl5 (L:List Zx) (br:List Int) (hL:L.length<=6000) (hb:br.length<=1048576):ZgZ L br=some (ZgS L.length br):=by
  have e:cat (λk (_:Zx)=>[!decide ((k:Int)∈br)]) 0 L=ZgS L.length br:=by
    apply UD;intro j;rw[Zt1];unfold ZgS;rw[UI,Uw];by_cases h:j<L.length
    · rw[Ua h,Kh h];rfl
    · rw[UC (by omega),UC (by simp;omega)];rfl
  unfold ZgZ;refine Xr (l:=L) (λk (_:Zx)=>[!decide ((k:Int)∈br)]) [] (λk x hx hk=>?_) ?_
  · have h1:(cat (λk (_:Zx)=>[!decide ((k:Int)∈br)]) 0 (L.take k)).length=(L.take k).length:=Znd
    rw[Ui] at h1;simp only[Us,ZfG,show (k:Int)<(L.length:Int) from by omega,Uj,Ztl br _ hb,Bq];rw[Zg (by rw[Un];omega),Y4 (by omega)]
  · simp only[Us,ZfG,Uf,Uh,e]
theorem Zy3 {n:Nat} {s:List Int} {x:Int} (h0:0<=x) (h1:x<(n:Int)):List.set (ZgS n s) (Int.toNat x) false=ZgS n (s++[x]):=by
  apply UD;intro j;rw[UQ];unfold ZgS;rw[UI,UI,UL,List.length_range];by_cases hj:j<n
  · rw[Kh hj]
    by_cases e:x.toNat=j
    · rw[Uc e,Uc (by omega)]
      have:(j:Int)=x:=by omega
      simp[this]
    · rw[Ud e]
      have:¬(j:Int)=x:=by omega
      simp[this]
  · rw[UC (l:=List.range n) (by simp;omega)]
    split
    · rw[Ud (by omega)];rfl
    · rfl
theorem ZyX (v:ZO) (br:List Int) (hL:(ZO.links v).length<=6000) (hb:ZjP br 0 (((ZO.links v).length:Int)-1)) (hbl:br.length<=1048576):Jw v br=some (v,ZgS (ZO.links v).length br,()):=by
  unfold Jw;rw[Zg (by omega),Zg (by omega),Zg (by omega),Zg (by omega)];generalize hn:(ZO.links v).length=n at *;have hlen:List.length (List.replicate (Int.toNat (n:Int)) false)=n:=by simp
  have hrest:Zq (λw=>Q5 v br w.1 w.2.1) ((0:Int),List.replicate n true,())=some (.inr (v,ZgS n br,())):=by
    have:=YK (l:=br) (ρ:=(Int×List Bool×Unit) ⊕ Ym) (λk=>((k:Int),ZgS n (br.take k),())) (step:=λw=>Q5 v br w.1 w.2.1) (good:=.inr (v,ZgS n br,()))
      (λk x hx hk=>by
        have hxb:=hb x (Ue hx);obtain ⟨y,hy,_⟩:=Zkn (l:=ZgS n (br.take k)) hxb.1 (by rw[Zie];omega);simp only[Q5,show (k:Int)<(br.length:Int) from by omega,Uj,Zm,hx,hy,Bq];rw[Zy3 hxb.1 (by omega),Yu hx,Y4 (by omega)])
      (by simp only[Q5,Uf,Uh,Um])
    have e0:ZgS n (br.take 0)=List.replicate n true:=by
      apply UD;intro j;simp only[ZgS,Ku,KM,decide_false,Bool.not_false,UI,Kc];by_cases h:j<n
      · simp[h]
      · simp[h]
    rw[<-e0];exact this
  refine Yy n (λk w=>w.1=(k:Int)/\w.2.1.length=n/\∀ j,j<k->w.2.1[j]?=some true) _ ⟨rfl,by simp,λj hj=>by omega⟩ ?_ ?_
  · rintro k ⟨i,l,⟨⟩⟩ hk ⟨hi,hl,hS⟩
    simp only at hi hl hS;subst hi;have hx:l[k]?=some l[k]:=Ua (by omega);left;simp only[ZbB,hn,hlen,show (k:Int)<(n:Int) from by omega,Uj,Zm,hx,Bq];refine ⟨_,rfl,by simp only;rw[Y4 (by omega)],by simp[hl],λj hj=>?_⟩;simp only[Up];rw[UQ];split
    · rw[Uc (by omega)]
    · exact hS j (by omega)
  · rintro ⟨i,l,⟨⟩⟩ ⟨hi,hl,hS⟩
    simp only at hi hl hS;subst hi;have e:l=List.replicate n true:=by
      apply UD;intro j;rw[Kc];by_cases h:j<n
      · rw[hS j h,Uc h]
      · rw[UC (by omega),Ud h]
    simp only[ZbB,hn,hlen,Uf,Uh];rw[e];exact hrest
def Zm8 (n:Int) (l:List Int):Prop:=ZjP l 0 (n-1)/\Inc l
theorem ZEg {l:List Int}:Inc l<->ZfL l (λk x=>∀ y,0<k->l[k-1]?=some y->y<x):=by
  constructor
  · intro h k x hx y hk hy
    exact h (k-1) y x hy (by rw[show k-1+1=k by omega];exact hx)
  · intro h k x y hx hy
    exact h (k+1) y hy x (by omega) hx
theorem Zka (l:List Int) (n:Int) (hl:l.length<=1048576) (hn:0<=n/\n<=1048576):ZdV l n=some (tr (Zm8 n l)):=by
  have e1:Wq (n-1)=n-1:=YZ (by omega) (by omega);unfold ZdV;rw[VL (l:=l) (show List.length _<=_ by omega) (λk x=>(0<=x/\x<=n-1)/\∀ y,0<k->l[k-1]?=some y->y<x) (bad:=false) (good:=true)
    (λk x hx hk _=>by
      simp only[ZdL,show (k:Int)<(l.length:Int) from by omega,Uj,Zm,hx,Bq,VW,e1];by_cases hb:0<=x/\x<=n-1
      · rw[Uc (ZU hb)]
        by_cases h0:(0:Int)<(k:Int)
        · obtain ⟨y,hy⟩:∃ y,l[k-1]?=some y:=⟨_,Ua (by omega)⟩
          rw[Uc h0,ZmK (by omega) (by omega),Zm,hy,Bq];constructor
          · intro hh
            rw[Ud];have:=hh.2 y (by omega) rfl;omega
          · intro hh
            rw[Uc];apply UU;intro hlt;refine hh ⟨hb,λy' _ hy'=>?_⟩;injection hy' with hy'
            have:¬x<=y:=hlt;omega
        · rw[Ud h0]
          exact ⟨λ_=>rfl,λhh=>absurd ⟨hb,λy hk0=>by omega⟩ hh⟩
      · rw[Ud (λq=>hb ((YS _).1 q))]
        exact ⟨λhh=>absurd hh.1 hb,λ_=>rfl⟩)
    (λ_=>by simp only[ZdL,Uf,Uh]),Zlj]
  congr 1;refine VE ?_;unfold Zm8;rw[ZEg];constructor
  · intro q
    exact ⟨Zd0.1 (λk x hx=>(q k x hx).1),λk x hx=>(q k x hx).2⟩
  · rintro ⟨q1,q2⟩ k x hx
    exact ⟨q1 x (Ue hx),q2 k x hx⟩
theorem Zrz (l:List Int) (n:Int) (hl:l.length<=1048576):((XD l 0 n).bind λb=>if b=true then (Vp l).bind λc=>some c else some false)=some (tr (ZjP l 0 n/\Inc l)) :=
  Xc (ZiY _ _ _ hl) (λ_=>J4 (Zhj _ (show List.length _<=_ by omega)))
theorem Zhk {b:Za} (h:YT b) {l:Zx} (hl:l∈Zy b):(0<=GA l/\GA l<2*((places (KZ b)).length:Int))/\(0<=Gw l/\Gw l<2*((places (KZ b)).length:Int)):=by
  have hf:=h.ok.1.few;unfold Zy at hl;rcases UB.1 hl with hl | hl
  · obtain ⟨i,x,hi,hx⟩:=X8.1 hl
    rw[Uw] at hx;obtain ⟨hc,⟨c,hc1,hc2⟩,_⟩:=h.ok.1.2.2.1 x (Ue hi);have hC:=h.ok.1.1.2.1 c (Ue hc1);unfold Zqp at hx;rw[hc1] at hx;obtain ⟨k,a,ha,hla⟩:=X8.1 hx;have hao:=(hC.2.2.1.2 k a ha).1;have h1:=hao.1;have h2:=hao.2.1;obtain ⟨B,hB⟩:=ZlY hi;have hlen:fst (KZ b) i+(Gb x).length<=(places (KZ b)).length:=by
      rw[hB,Ug,Ug,Zdd];unfold fst;omega
    unfold ZsG at hla;obtain ⟨p,hp,rfl⟩:=Kq.1 hla;have htr:(0<=p.1/\p.1<=1)/\(0<=p.2.1/\p.2.1<=1):=by
      unfold trs at hp;repeat' split at hp
      all_goals (simp only[UT,KM,or_false] at hp)
      all_goals first | (rcases hp with rfl | rfl | rfl | rfl<;>simp) | (rcases hp with rfl | rfl<;>simp) | exact hp.elim
    simp only[VY,GA,Gw];omega
  · obtain ⟨v,w,hw,hx⟩:=X8.1 hl
    rw[Uw] at hx;have hv:v<(K6 (KZ b)).length:=by
      have:=(Ub.1 hw).1;have:=h.ok.2.1;omega
    have hd:=ZxK h hv;obtain ⟨j,s,hs,hls⟩:=X8.1 hx;have hsb:=ZlT (Ue hs);simp only[UT,KM,or_false] at hls;rcases hls with rfl | rfl
    · simp only[VY,GA,Gw];omega
    · simp only[VY,GA,Gw];omega
theorem Vq {b:Za} (h:YT b):(Zy b).length<=6000:=by
  have h1:=Zkz h;have h2:=Znc h (K2 b);have h3:=h.ok.2.1;have h4:=h.ok.1.2.1.2.1;unfold Zy Zyo;rw[Ug];omega
def ZFT (b:Za) (x:Zx) (y:Pl):Prop:=GT x=1/\∃ (i:Nat) (u:Ze) (c:Zl) (k:Nat) (a:ZC),y.1=(i:Int)/\(K1 (KZ b))[i]?=some u/\0<=Gx u/\(K8 (K4 b))[(Gx u).toNat]?=some c/\
  (Gj c)[k]?=some a/\GX x=(k:Int)/\Zdt (GC a) true/\Zdt (GN a) true
def ZHX (b:Za) (x:Zx) (v:Nat):Prop:=GT x=2/\∃ (w:Zo) (j:Nat) (z:Int),(K2 b)[v]?=some w/\GX x=(j:Int)/\(Gk w)[j]?=some z
structure ZzE (b:Za) (x:Zx) (y:Pl) (v:Nat):Prop where
  to0:0<=Gw x
  to1:Gw x<=1000000
  place:(places (KZ b))[(Gw x / 2).toNat]?=some y
  net:y.2.2.1=(v:Int)
  few:v<(K2 b).length
  kind:ZFT b x y\/ZHX b x v
theorem ZvN {b:Za} (h:YT b) {x:Zx} (hl:x∈Zy b):∃ y v,ZzE b x y v:=by
  have hf:=h.ok.1.few;have hpl:=Z0 hf;have hbd:=Zhk h hl;have hwn:=h.ok.2.1;unfold Zy at hl;rcases UB.1 hl with hl | hl
  · obtain ⟨i,u,hi,hx⟩:=X8.1 hl
    rw[Uw] at hx;obtain ⟨hc,⟨c,hc1,hc2⟩,hnets⟩:=h.ok.1.2.2.1 u (Ue hi);have hC:=h.ok.1.1.2.1 c (Ue hc1);unfold Zqp at hx;rw[hc1] at hx;obtain ⟨k,a,ha,hla⟩:=X8.1 hx;rw[Uw] at hla;have hao:=(hC.2.2.1.2 k a ha).1;have h1:=hao.1;have h2:=hao.2.1;obtain ⟨B,hB⟩:=ZlY hi;unfold ZsG at hla;obtain ⟨p,hp,rfl⟩:=Kq.1 hla;have htr:(0<=p.2.1/\p.2.1<=1)/\(Ge a=1\/Ge a=2\/Ge a=3):=by
      unfold trs at hp;repeat' split at hp
      all_goals (simp only[UT,KM,or_false] at hp)
      all_goals first | (rcases hp with rfl | rfl | rfl | rfl<;>simp<;>omega) | (rcases hp with rfl | rfl<;>simp<;>omega) | exact hp.elim
    obtain ⟨ht,hk⟩:=htr;have htabs:Zdt (GC a) true/\Zdt (GN a) true:=by
      rcases hao.2.2 with q | q | q
      · exact ⟨q.2.2.2.2.1,q.2.2.2.2.2⟩
      · exact ⟨q.2.2.2.2.1,q.2.2.2.2.2⟩
      · have:=q.1;omega
    have hn:(Gb u)[(Gn a).toNat]?=some ((Gb u)[(Gn a).toNat]'(by omega)):=Ua _;have hnet:=hnets _ (Ue hn);generalize (Gb u)[(Gn a).toNat]'(by omega)=n at hn hnet;have hnet0:0<=n/\n<=((K6 (KZ b)).length:Int)-1:=hnet;have hfst:(cat YH 0 ((K1 (KZ b)).take i)).length=fst (KZ b) i:=rfl;have eto:Gw (VY ((fst (KZ b) i:Nat)+Gi a) ((fst (KZ b) i:Nat)+Gn a) p.1 p.2.1 1 (k:Int))=2*((fst (KZ b) i:Int)+Gn a)+p.2.1:=rfl;have hpos:((2*((fst (KZ b) i:Int)+Gn a)+p.2.1) / 2).toNat=fst (KZ b) i+(Gn a).toNat:=by omega
    refine ⟨((i:Int),(((Gn a).toNat:Nat):Int),n,decide ((((Gn a).toNat:Nat):Int)=Wq (((Gb u).length:Int)-1)),()),n.toNat,hbd.2.1,by have:=hbd.2.2;omega,?_,by show n=_;omega,by omega,.inl ⟨rfl,i,u,c,k,a,rfl,hi,hc.1,hc1,ha,rfl,htabs.1,htabs.2⟩⟩;rw[eto,hpos,hB,Uv (by rw[hfst];omega),hfst,Nat.add_sub_cancel_left,Uq (by rw[Zdd];omega)];unfold YH;rw[Zt1,hn,Uw];rfl
  · obtain ⟨v,w,hw,hx⟩:=X8.1 hl
    rw[Uw] at hx;have hv:=(Ub.1 hw).1;obtain ⟨j,s,hs,hls⟩:=X8.1 hx;rw[Uw] at hls;have hsl:((Gk w).length:Int)=((sinks (KZ b) (v:Int)).length:Int):=(h.ok.2.2 v w hw).2.2.2.1;have hjl:=(Ub.1 hs).1;have hz:(Gk w)[j]?=some ((Gk w)[j]'(by omega)):=Ua _;obtain ⟨q,y,hq,hy⟩:=X8.1 (show s∈cat (Ji (v:Int)) 0 (places (KZ b)) from Ue hs);rw[Uw] at hy;have hsq:s=(q:Int)/\y.2.2.1=(v:Int):=by
      unfold Ji at hy;split at hy
      · rename_i e
        split at hy
        · cases hy
        · exact ⟨Uu.1 hy,e⟩
      · cases hy
    obtain ⟨rfl,hnet⟩:=hsq;simp only[UT,KM,or_false] at hls;rcases hls with rfl | rfl
    · refine ⟨y,v,hbd.2.1,by have:=hbd.2.2;omega,?_,hnet,hv,.inr ⟨rfl,w,j,_,hw,rfl,hz⟩⟩
      rw[show Gw (VY (Zls (KZ b) (v:Int)) (q:Int) 0 0 2 (j:Int))=2*(q:Int)+0 from rfl,show ((2*(q:Int)+0) / 2).toNat=q by omega];exact hq
    · refine ⟨y,v,hbd.2.1,by have:=hbd.2.2;omega,?_,hnet,hv,.inr ⟨rfl,w,j,_,hw,rfl,hz⟩⟩
      rw[show Gw (VY (Zls (KZ b) (v:Int)) (q:Int) 1 1 2 (j:Int))=2*(q:Int)+1 from rfl,show ((2*(q:Int)+1) / 2).toNat=q by omega];exact hq
def ZBO (n r:Nat):Prop:=r*r<=n/\n<(r+1)*(r+1)
theorem ZGC {n r:Nat} (h:ZBO n r) (k:Nat):k<=r<->k*k<=n:=by
  constructor
  · intro q
    exact Kv (Ko q q) h.1
  · intro q
    by_cases c:k<=r
    · exact c
    · have:(r+1)*(r+1)<=k*k:=Ko (by omega) (by omega)
      have:=h.2;omega
theorem ZDD (k:Nat):(2*k)*(2*k)=4*(k*k):=by
  rw[Nat.mul_mul_mul_comm]
theorem ZC4 {S r R:Nat} (h:ZBO S r) (H:ZBO (4*S) R):r / 500=R / 1000:=by
  have e:∀ q:Nat,500*q<=r<->1000*q<=R:=λq=>by
    rw[ZGC h,ZGC H,show 1000*q=2*(500*q) by omega,ZDD];omega
  have e1:=e (r / 500);have e2:=e (R / 1000);omega
def upQ (x n:Nat):Nat:=if x % n=0 then x / n else x / n+1
theorem ZDG {x n q:Nat} (hn:0<n):upQ x n<=q<->x<=n*q:=by
  unfold upQ;have h1:=Nat.div_add_mod x n;have h2:=Nat.mod_lt x hn;constructor
  · intro h
    split at h
    · rename_i c
      have:=Nat.mul_le_mul_left n h;omega
    · have:=Nat.mul_le_mul_left n h
      rw[Nat.mul_add,Nat.mul_one] at this;omega
  · intro h
    split
    · rename_i c
      refine Nat.le_of_mul_le_mul_left (c:=n) ?_ hn;omega
    · rename_i c
      have:n*(x / n)<n*q:=by omega
      have:=Nat.lt_of_mul_lt_mul_left this;omega
theorem ZEz {S r R:Nat} (h:ZBO S r) (H:ZBO (4*S) R):(if r*r<S then r / 500+1 else upQ r 500)=upQ (if R*R<4*S then R+1 else R) 1000:=by
  have hup:∀ {n x:Nat},ZBO n x->∀ k,(if x*x<n then x+1 else x)<=k<->n<=k*k:=by
    intro n x hx k;split
    · rename_i c
      constructor
      · intro q
        have:(x+1)*(x+1)<=k*k:=Ko q q;have:=hx.2;omega
      · intro q
        by_cases w:x+1<=k
        · exact w
        · have:k*k<=x*x:=Ko (by omega) (by omega)
          omega
    · rename_i c
      have e:x*x=n:=by have:=hx.1;omega
      constructor
      · intro q
        rw[<-e];exact Ko q q
      · intro q
        by_cases w:x<=k
        · exact w
        · have:(k+1)*(k+1)<=x*x:=Ko (by omega) (by omega)
          have:(k+1)*(k+1)=k*k+2*k+1:=by rw[Nat.add_mul,Nat.mul_add];omega
          omega
  have e1:∀ q,(if r*r<S then r / 500+1 else upQ r 500)<=q<->S<=(500*q)*(500*q):=λq=>by
    rw[<-hup h (500*q)];split
    · omega
    · exact ZDG (by decide)
  have e2:∀ q,upQ (if R*R<4*S then R+1 else R) 1000<=q<->S<=(500*q)*(500*q):=λq=>by
    rw[ZDG (by decide),hup H,show 1000*q=2*(500*q) by omega,ZDD];omega
  generalize (if r*r<S then r / 500+1 else upQ r 500)=A at e1 ⊢;generalize upQ (if R*R<4*S then R+1 else R) 1000=B at e2 ⊢;have a:=(e2 A).2 ((e1 A).1 (UK _));have c:=(e1 B).2 ((e2 B).1 (UK _));omega
theorem Zv2 {ρ:Type} {n H:Nat} (hn:n<(H+1)*(H+1)) {step:Int×Int×Unit->Option ((Int×Int×Unit) ⊕ ρ)} {good:Nat->ρ}
    (h1:∀ lo hi:Nat,lo<hi->hi<=H->step ((lo:Int),(hi:Int),())=some (.inl (if (lo+hi+1) / 2*((lo+hi+1) / 2)<=n then ((((lo+hi+1) / 2:Nat):Int),(hi:Int),()) else ((lo:Int),(((lo+hi+1) / 2-1:Nat):Int),()))))
    (h2:∀ lo:Nat,lo<=H->step ((lo:Int),(lo:Int),())=some (.inr (good lo))):∃ r,ZBO n r/\r<=H/\Zq step ((0:Int),(H:Int),())=some (good r):=by
  obtain ⟨x,e,r,rfl,hr,hl⟩:=Zki (step:=step) (v:=((0:Int),(H:Int),())) (λv=>∃ lo hi:Nat,v=((lo:Int),(hi:Int),())/\lo<=hi/\hi<=H/\lo*lo<=n/\n<(hi+1)*(hi+1)) (λv=>(v.2.1-v.1).toNat) (λx=>∃ r,x=good r/\ZBO n r/\r<=H)
    ⟨0,H,rfl,by omega,by omega,by omega,hn⟩ (by
      rintro _ ⟨lo,hi,rfl,hle,hH,hlo,hhi⟩;by_cases c:lo<hi
      · left
        refine ⟨_,h1 lo hi c hH,?_,?_⟩
        · split
          · rename_i d
            exact ⟨_,_,rfl,by omega,hH,d,hhi⟩
          · rename_i d
            refine ⟨_,_,rfl,by omega,by omega,hlo,?_⟩;rw[show (lo+hi+1) / 2-1+1=(lo+hi+1) / 2 by omega];omega
        · split
          · simp only;omega
          · simp only;omega
      · right
        have:lo=hi:=by omega
        subst this;exact ⟨_,h2 lo hH,lo,rfl,⟨hlo,hhi⟩,hH⟩)
  exact ⟨r,hr,hl,e⟩
theorem ZDy {lo hi:Nat} (h:lo+hi<=8000000000):Wq (Int.tdiv (Wq (Wq ((lo:Int)+(hi:Int))+(1:Int))) (2:Int))=(((lo+hi+1) / 2:Nat):Int):=by
  rw[YZ (n:=(lo:Int)+(hi:Int)) (by omega) (by omega),YZ (n:=(lo:Int)+(hi:Int)+1) (by omega) (by omega),Kk (by omega),YZ (by omega) (by omega)];omega
theorem ZDb {m:Nat} (h:m<=3000000000):Wq ((m:Int)*(m:Int))=((m*m:Nat):Int):=by
  have:=Ko h h;rw[<-Int.natCast_mul];generalize m*m=q at this ⊢;exact YZ (by omega) (by omega)
theorem ZvG {S:Nat} (hS:S<(3000000000+1)*(3000000000+1)):∃ r,ZBO S r/\r<=3000000000/\Zn6 (S:Int)=some (r:Int):=by
  unfold Zn6;refine Zv2 (n:=S) (H:=3000000000) (good:=λr=>(r:Int)) hS (λlo hi hlt hH=>?_) (λlo hl=>?_)
  · show ZcG (S:Int) (lo:Int) (hi:Int)=_
    unfold ZcG;rw[Uc (by omega),ZDy (by omega),ZDb (by omega)];by_cases c:(lo+hi+1) / 2*((lo+hi+1) / 2)<=S
    · rw[Uc c,Uc (by omega)]
    · rw[Ud c,Ud (by omega),YZ (by omega) (by omega),show (((lo+hi+1) / 2:Nat):Int)-1=(((lo+hi+1) / 2-1:Nat):Int) by omega]
  · show ZcG (S:Int) (lo:Int) (lo:Int)=_
    unfold ZcG;rw[Ud (Uf _)]
theorem Zwd {S:Nat} {m:Int} (hS:S<(2000000000+1)*(2000000000+1)):∃ r,ZBO S r/\r<=2000000000/\ZgX (S:Int) m=some (if m=1 then ((if r*r<S then r+1 else r:Nat):Int) else (r:Int)):=by
  unfold ZgX;refine Zv2 (n:=S) (H:=2000000000) (good:=λr=>if m=1 then ((if r*r<S then r+1 else r:Nat):Int) else (r:Int)) hS (λlo hi hlt hH=>?_) (λlo hl=>?_)
  · show Zav (S:Int) m (lo:Int) (hi:Int)=_
    unfold Zav;rw[Uc (by omega),ZDy (by omega),ZDb (by omega)];by_cases c:(lo+hi+1) / 2*((lo+hi+1) / 2)<=S
    · rw[Uc c,Uc (by omega)]
    · rw[Ud c,Ud (by omega),YZ (by omega) (by omega),show (((lo+hi+1) / 2:Nat):Int)-1=(((lo+hi+1) / 2-1:Nat):Int) by omega]
  · show Zav (S:Int) m (lo:Int) (lo:Int)=_
    unfold Zav;rw[Ud (Uf _),ZDb (by omega)];by_cases m1:m=1
    · rw[Uc m1,Uc m1]
      by_cases c:lo*lo<S
      · rw[Uc (by omega),Uc c,YZ (by omega) (by omega)]
        rfl
      · rw[Ud (by omega),Ud c]
    · rw[Ud m1,Ud m1]
theorem Zt9 {x n:Nat} {m:Int} (hn:0<n) (hx:x<=4000000000) (hn2:n<=1000) (hm:m=0\/m=1):Xe (x:Int) (n:Int) m=some (if m=1 then ((upQ x n:Nat):Int) else ((x / n:Nat):Int)):=by
  have e1:Int.tmod (x:Int) (n:Int)=((x % n:Nat):Int):=by rw[Int.tmod_eq_emod_of_nonneg (by omega)];omega
  have e2:Int.tdiv (x:Int) (n:Int)=((x / n:Nat):Int):=by rw[Kk (by omega)];omega
  have hq:=Nat.div_le_self x n;unfold Xe upQ;rw[Zg (by omega),e1,e2];clear e1 e2;generalize x / n=q at hq ⊢;rw[Ud (by omega),YZ (n:=(q:Int)) (by omega) (by omega)];by_cases c:x % n=0
  · rw[Ud (by omega),Uc c]
    rcases hm with rfl | rfl<;>rfl
  · rw[Uc (by omega),Ud c]
    rcases hm with rfl | rfl
    · rfl
    · rw[Uc rfl,Uc rfl,YZ (by omega) (by omega)]
      rfl
def sqs (s d:Int):Nat:=250000*(s.natAbs*s.natAbs)+d.natAbs*d.natAbs
theorem ZGK {s d:Int} (h1:-1000000<=s) (h2:s<=1000000) (h3:0<=d) (h4:d<=301000000):sqs s d<=350000000000000000/\(s.natAbs*s.natAbs:Nat)<=1000000000000/\(d.natAbs*d.natAbs:Nat)<=90601000000000000/\s*s=((s.natAbs*s.natAbs:Nat):Int)/\d*d=((d.natAbs*d.natAbs:Nat):Int):=by
  have a:=Ko (show s.natAbs<=1000000 by omega) (show s.natAbs<=1000000 by omega);have b:=Ko (show d.natAbs<=301000000 by omega) (show d.natAbs<=301000000 by omega);refine ⟨?_,by omega,by omega,?_,?_⟩
  · unfold sqs
    generalize s.natAbs*s.natAbs=x at *;generalize d.natAbs*d.natAbs=y at *;omega
  · rw[Int.natCast_mul,Int.natAbs_mul_self']
  · rw[Int.natCast_mul,Int.natAbs_mul_self']
theorem ZBG {s d m:Int} (h1:-1000000<=s) (h2:s<=1000000) (h3:0<=d) (h4:d<=301000000) (hm:m=0\/m=1) :
    ∃ r,ZhP s d m=some r/\0<=r/\((ZgX (Wq (Wq (Wq ((1000000:Int)*s)*s)+Wq (Wq ((4:Int)*d)*d))) m).bind λl07Root0=>(Xe l07Root0 (1000:Int) m).bind λl01Div0=>some l01Div0)=some r:=by
  obtain ⟨b1,b2,b3,e1,e2⟩:=ZGK h1 h2 h3 h4;have ei:Wq (Wq (Wq (Wq ((500:Int)*s)*(500:Int))*s)+Wq (d*d))=((sqs s d:Nat):Int):=by
    have f1:(500:Int)*s*500*s=250000*(s*s):=by
      rw[<-Int.mul_assoc];congr 1;omega
    rw[YZ (n:=500*s) (by omega) (by omega),YZ (n:=500*s*500) (by omega) (by omega),f1,e1,e2];unfold sqs;generalize s.natAbs*s.natAbs=x at *;generalize d.natAbs*d.natAbs=y at *;rw[YZ (n:=250000*(x:Int)) (by omega) (by omega),YZ (n:=(y:Int)) (by omega) (by omega),YZ (by omega) (by omega)];omega
  have es:Wq (Wq (Wq ((1000000:Int)*s)*s)+Wq (Wq ((4:Int)*d)*d))=((4*sqs s d:Nat):Int):=by
    rw[YZ (n:=1000000*s) (by omega) (by omega),YZ (n:=4*d) (by omega) (by omega),Int.mul_assoc,Int.mul_assoc,e1,e2];unfold sqs;generalize s.natAbs*s.natAbs=x at *;generalize d.natAbs*d.natAbs=y at *;rw[YZ (n:=1000000*(x:Int)) (by omega) (by omega),YZ (n:=4*(y:Int)) (by omega) (by omega),YZ (by omega) (by omega)];omega
  generalize sqs s d=S at b1 ei es;obtain ⟨r,hr,hrl,hre⟩:=ZvG (S:=S) (by omega);obtain ⟨R,hR,hRl,hRe⟩:=Zwd (S:=4*S) (m:=m) (by omega);unfold ZhP;rw[ei,es,hre,hRe,Bq,Bq,Zks,ZDb (by omega)];rw[show (500:Int)=((500:Nat):Int) from rfl,show (1000:Int)=((1000:Nat):Int) from rfl];rcases hm with rfl | rfl
  · refine ⟨((r / 500:Nat):Int),?_,by omega,?_⟩
    · rw[Ud (by decide),Zt9 (by omega) (by omega) (by omega) (.inl rfl),Bq,Ud (by decide)]
    · rw[Ud (by decide),Zt9 (by omega) (by omega) (by omega) (.inl rfl),Bq,Ud (by decide),ZC4 hr hR]
  · have hl:=ZEz hr hR
    refine ⟨((upQ (if R*R<4*S then R+1 else R) 1000:Nat):Int),?_,by omega,?_⟩
    · rw[Uc rfl,<-hl]
      by_cases c:r*r<S
      · rw[Uc (by omega),Uc c,Kk (by omega),YZ (n:=(r:Int) / ((500:Nat):Int)) (by omega) (by omega),YZ (by omega) (by omega)]
        congr 1
      · rw[Ud (by omega),Ud c,Zt9 (by omega) (by omega) (by omega) (.inr rfl),Bq,Uc rfl]
    · rw[Uc rfl,Zt9 (by omega) (by split<;>omega) (by omega) (.inr rfl),Bq,Uc rfl]
def ZzD (e l:Int):Prop:=100<=e/\e<=l/\l<=5000
def ZaH (c:ZA):Prop:=Zao (G7 c)=true/\ZzD (G0 c) (GZ c)/\ZzD (G2 c) (G3 c)
theorem ZC9 {c:ZA} (h:sm XW c):(G7 c).length<=4611686018427387904:=by
  refine Zkf ?_;first | exact h.1 | exact h.2.1
theorem ZnQ (e l:Int):ZcD e l=some (tr (ZzD e l)):=by
  unfold ZcD ZzD;exact Yq (λ_=>Yq (λ_=>Zch U3))
theorem Zqk (c:ZA):ZhK c=some (tr (ZaH c)):=by
  unfold ZhK;exact Xc (by rw[Zgn];exact Zch Iff.rfl) (λ_=>Xc (ZnQ _ _) (λ_=>J4 (ZnQ _ _)))
theorem Zlk (c:ZA) (h:sm XW c):ZfA c=some (tr (ZaH c)):=by
  unfold ZfA;rw[VL (l:=[G0 c,GZ c,G2 c,G3 c]) (show List.length _<=_ by simp) (λ_ x=>(100:Int)<=x/\x<=5000) (bad:=false) (good:=tr (Zao (G7 c)=true/\G0 c<=GZ c/\G2 c<=G3 c))
    (λk x hx hk _=>by
      simp only[Zeu,show (k:Int)<((List.length [G0 c,GZ c,G2 c,G3 c]:Nat):Int) from by omega,Uj,Zm,hx,Bq,VW];constructor
      · intro hh;rw[Uc (ZU hh)]
      · intro hh;rw[Ud (λq=>hh ((YS _).1 q))])
    (λ_=>by
      simp only[Zeu,Uf,Uh,Zbf _ (ZC9 h),Bq];by_cases a:Zao (G7 c)=true
      · rw[Uc a]
        by_cases b:G0 c<=GZ c
        · rw[Uc b]
          congr 2;exact (ZqV (by rw[Uk];exact ⟨λq=>⟨a,b,q⟩,λq=>q.2.2⟩)).symm
        · rw[Ud b,Yj (λq=>b q.2.1)]
      · rw[Ud a,Yj (λq=>a q.1)]),Zmo]
  congr 1;refine VE ?_;rw[Zd0];simp only[UT,KM,or_false,forall_eq_or_imp,forall_eq];unfold ZaH ZzD;constructor
  · rintro ⟨⟨q1,q2,q3,q4⟩,q5,q6,q7⟩;exact ⟨q5,by omega,by omega⟩
  · rintro ⟨q5,q6,q7⟩;exact ⟨by omega,q5,by omega,by omega⟩
structure VOk (b:Za) (v:ZO):Prop where
  places:ZO.places v=places (KZ b)
  block:GY v=b
  links:ZO.links v=Zy b
  loads:ZO.loads v=(List.range (K2 b).length).map (ldF b)
  Zk7:ZO.Zk7 v=(List.range (K2 b).length).map (edF b)
  extras:ZO.extras v=[]
theorem ZFA {b:Za} (h:YT b):∃ v,Jl b=some v/\VOk b v:=by
  obtain ⟨v,h1,h2,h3,h4,h5,h6,h7⟩:=Zw6 h;exact ⟨v,h1,h2,h3,h4,h5,h6,h7⟩
theorem Zuw {b:Za} {x:Zx} {y:Pl} {n:Nat} (hd:ZzE b x y n):atI (places (KZ b)) (Wq (Int.tdiv (Gw x) (2:Int)))=some y:=by
  have h0:=hd.to0;have h1:=hd.to1;rw[Kk h0,YZ (by omega) (by omega)];exact YD (by omega) hd.place
theorem Zyp {b:Za} {v:ZO} (hv:VOk b v) {x:Zx} {y:Pl} {n:Nat} (hd:ZzE b x y n):Za6 v x=some (n:Int):=by
  unfold Za6;rw[hv.places,Zuw hd,Bq,<-hd.net]
theorem ZvM {b:Za} (h:YT b) {x:Zx} {y:Pl} {n:Nat} (hd:ZzE b x y n):ZiS b x=some (n:Int):=by
  unfold ZiS;rw[Yg _ h.ok.1.few,Bq,Zuw hd,Bq,<-hd.net]
theorem ZDE {l:List Zw} (h:Zdt l true) {n:Int} (hn:0<=n):∃ t,atI l (Int.tmod n (2:Int))=some t/\Jz t/\∀ v∈Gr t,0<=v:=by
  have e:0<=Int.tmod n 2/\Int.tmod n 2<2:=by rw[Int.tmod_eq_emod_of_nonneg hn];omega
  obtain ⟨t,h1,h2⟩:=Zkn (l:=l) e.1 (by rw[h.1];exact e.2);exact ⟨t,h1,(h.2 t h2).1,(h.2 t h2).2 rfl⟩
theorem ZCP {b:Za} {n:Nat} {w:Zo} {ld:List Int} (h:Zww b n w ld):atI ld (0:Int)=some (ldF b n):=by
  have h1:=h.n1;have h2:=h.nl;have e:ld[0]?=some (ld[0]'(by omega)):=Ua _;show atI ld ((0:Nat):Int)=_;rw[Zm];unfold ldF;rw[h.prog,Bq,e];rfl
theorem ZAL {b:Za} {n:Nat} {w:Zo} {ld:List Int} (h:Zww b n w ld):edF b n=(Gk w).map (sdl w ld):=by
  unfold edF;rw[ZsO h];rfl
theorem Ztw {b:Za} (h:YT b) {v:ZO} (hv:VOk b v) {x:Zx} {y:Pl} {n:Nat} (hd:ZzE b x y n) (hc:ZFT b x y) :
    ∃ a t1 t2,ZcH v x=some a/\ZiR b x=some (a,ldF b n)/\atI (GC a) (Int.tmod (Gw x) (2:Int))=some t1/\Jz t1/\atI (GN a) (Int.tmod (Gw x) (2:Int))=some t2/\Jz t2/\∀ v∈Gr t2,0<=v:=by
  obtain ⟨hk,i,u,c,k,a,e1,e2,e3,e4,e5,e6,e7,e8⟩:=hc;obtain ⟨t1,f1,f2,_⟩:=ZDE e7 hd.to0;obtain ⟨t2,f3,f4,f5⟩:=ZDE e8 hd.to0;have hw:(K2 b)[n]?=some ((K2 b)[n]'hd.few):=Ua _;obtain ⟨ld,hN⟩:=ZK0 h hw;have g1:atI (K1 (KZ b)) (Gq y)=some u:=by
    show atI _ y.1=_;rw[e1,Zm];exact e2
  have g1':atI (K1 (KZ b)) (GL y)=some u:=g1;have g2:atI (K8 (K4 b)) (Gx u)=some c:=YD e3 e4;have g3:atI (Gj c) (GX x)=some a:=by rw[e6,Zm];exact e5
  refine ⟨a,t1,t2,?_,?_,f1,f2,f3,f4,f5⟩
  · unfold ZcH
    rw[hv.places,hv.block,Zuw hd,Bq,g1,Bq,g2,Bq,g3];rfl
  · unfold ZiR
    rw[Yg _ h.ok.1.few,Bq,Zuw hd,Bq,g1',Bq,g2,Bq,g3,Bq,show ZE.net y=(n:Int) from hd.net,hN.ref,Bq,ZCP hN];rfl
theorem Zyc {b:Za} {v:ZO} (hv:VOk b v) {n:Nat} (hn:n<(K2 b).length):atI (ZO.loads v) (n:Int)=some (ldF b n):=by
  rw[Zm,hv.loads,UI,Kh hn];rfl
theorem Zz7 {b:Za} {v:ZO} (hv:VOk b v) {n:Nat} (hn:n<(K2 b).length):atI (ZO.Zk7 v) (n:Int)=some (edF b n):=by
  rw[Zm,hv.Zk7,UI,Kh hn];rfl
theorem ZAh {c:ZA} (h:ZaH c) (kind:Int) (m:Int):∃ F,Zad c kind m=some F/\ZdW c kind m=some F/\0<=F/\F<=5000:=by
  obtain ⟨_,⟨a1,a2,a3⟩,⟨b1,b2,b3⟩⟩:=h;unfold Zad ZdW;by_cases k1:kind=1
  · by_cases m0:m=0
    · simp only[k1,m0,Uj]
      exact ⟨_,rfl,rfl,by omega,by omega⟩
    · simp only[k1,m0,Uj,Uh]
      exact ⟨_,rfl,rfl,by omega,by omega⟩
  · by_cases m0:m=0
    · simp only[k1,m0,Uj,Uh]
      exact ⟨_,rfl,rfl,by omega,by omega⟩
    · simp only[k1,m0,Uh]
      exact ⟨_,rfl,rfl,by omega,by omega⟩
theorem Zyz {q F m:Int} (q1:-1000000<=q) (q2:q<=1000000) (F0:0<=F) (F1:F<=5000) (hm:m=0\/m=1):∃ r,ZjV q F m=some r/\Xe (Wq (q*F)) (1000:Int) m=some r/\-5000000<=r/\r<=5000000:=by
  have p:=Zr7 q1 q2 F0;obtain ⟨r,hr,hb⟩:=Zua (a:=q*F) (b:=1000) (m:=m) (by omega) (by omega) (by omega) hm;have hb:=hb 5000000 (by omega) (by omega);unfold ZjV;rw[Zks,YZ (n:=q*F) (by omega) (by omega),hr];exact ⟨r,rfl,rfl,hb.2.1 (by omega),hb.1 (by omega)⟩
theorem ZqZ {b:Za} (h:YT b) {v:ZO} (hv:VOk b v) {c:ZA} (hc:ZaH c) {k:Nat} {x:Zx} (hx:(Zy b)[k]?=some x) (s:Int) {m:Int} (hm:m=0\/m=1) :
    ∃ r,JE v c (k:Int) s m=some r/\ZbN b c x s m=some r/\-5000000<=r/\r<=5000000:=by
  obtain ⟨y,n,hd⟩:=ZvN h (Ue hx);obtain ⟨F,F1,F2,F3,F4⟩:=ZAh hc (GT x) m;have hl:atI (ZO.links v) (k:Int)=some x:=by rw[hv.links,Zm];exact hx
  unfold JE ZbN;rw[hl,Bq,Zyp hv hd,Bq];rcases hd.kind with hC | hW
  · obtain ⟨a,t1,t2,c1,c2,c3,c4,c5,c6,_⟩:=Ztw h hv hd hC
    obtain ⟨q,q1,q2,q3,q4⟩:=look_eq c4 s (ldF b n) hm;obtain ⟨r,r1,r2,r3,r4⟩:=Zyz q3 q4 F3 F4 hm;refine ⟨r,?_,?_,r3,r4⟩
    · rw[Uc hC.1,Zyc hv hd.few,Bq,c1,Bq,c3,Bq,q1,Bq,F1,Bq,r1]
      rfl
    · rw[Uc hC.1,c2,Bq]
      show (atI (GC a) _).bind _=_;rw[c3,Bq];show (ZcU t1 s (ldF b n) m).bind _=_;rw[q2,Bq,F2,Bq,r2];rfl
  · obtain ⟨hk,w,j,z,e1,e2,e3⟩:=hW
    obtain ⟨ld,hN⟩:=ZK0 h e1;obtain ⟨f,f1,f2⟩:=ZuP hN hm;obtain ⟨g1,g2,g3⟩:=f1 z (Ue e3);obtain ⟨r,r1,r2,r3,r4⟩:=Zyz (q:=f z) (by omega) (by omega) F3 F4 hm;have hne:¬GT x=1:=by omega
    refine ⟨r,?_,?_,r3,r4⟩
    · rw[Ud hne,Zz7 hv hd.few,Bq,ZAL hN,e2,Zm,UI,e3,UY,Bq,Zks,g1,Bq,F1,Bq,r1]
      rfl
    · rw[Ud hne,ZvM h hd,Bq,f2,Bq,e2,Zm,UI,e3,UY,Bq,F2,Bq,r2]
      rfl
theorem ZuR {b:Za} (h:YT b) {v:ZO} (hv:VOk b v) {k:Nat} {x:Zx} (hx:(Zy b)[k]?=some x) {s:Int} (s1:-1000000<=s) (s2:s<=1000000) {m:Int} (hm:m=0\/m=1) :
    ∃ r,Xj v (k:Int) s m=some r/\ZcX b x s m=some r/\-1000000<=r/\r<=1000000:=by
  obtain ⟨y,n,hd⟩:=ZvN h (Ue hx);have hl:atI (ZO.links v) (k:Int)=some x:=by rw[hv.links,Zm];exact hx
  unfold Xj ZcX;rw[hl,Bq,Zyp hv hd,Bq];rcases hd.kind with hC | hW
  · obtain ⟨a,t1,t2,c1,c2,c3,c4,c5,c6,_⟩:=Ztw h hv hd hC
    obtain ⟨q,q1,q2,q3,q4⟩:=look_eq c6 s (ldF b n) hm;refine ⟨q,?_,?_,q3,q4⟩
    · rw[Uc hC.1,Zyc hv hd.few,Bq,c1,Bq,c5,Bq,q1,Bq,Int.min_eq_left q4]
    · rw[Uc hC.1,c2,Bq]
      show (atI (GN a) _).bind _=_;rw[c5,Bq];show (ZcU t2 s (ldF b n) m).bind _=_;rw[q2];rfl
  · obtain ⟨hk,w,j,z,e1,e2,e3⟩:=hW
    obtain ⟨ld,hN⟩:=ZK0 h e1;obtain ⟨g1,g2,g3⟩:=hN.sink (Ue e3);obtain ⟨q,q1,q2,q3⟩:=ZBG (s:=s) (d:=sdl w ld z) (m:=m) s1 s2 g2 g3 hm;have hne:¬GT x=1:=by omega
    refine ⟨Min.min q 1000000,?_,?_,by omega,by omega⟩
    · rw[Ud hne,Zz7 hv hd.few,Bq,ZAL hN,e2,Zm,UI,e3,UY,Bq,q1]
      rfl
    · rw[Ud hne,ZvM h hd,Bq]
      unfold Zl4;rw[Zm,e1,Bq,e2,Zm,e3,Bq,Zsq hN,Bq,g1,Bq,q3,Bq,Int.min_comm]
theorem spans_eq {b:Za} (h:YT b) {v:ZO} (hv:VOk b v) {c:ZA} (hc:ZaH c) {k:Nat} {x:Zx} (hx:(Zy b)[k]?=some x) {s:Zv} (s1:-1000000<=Gd s/\Gd s<=1000000) (s2:-1000000<=Gf s/\Gf s<=1000000) :
    ∃ d o:Zv,Za7 v c (k:Int) s=some (d,o)/\ZfH b c x s=some (d,o)/\(-5000000<=Gd d/\Gd d<=5000000)/\(-5000000<=Gf d/\Gf d<=5000000)/\(-1000000<=Gd o/\Gd o<=1000000)/\(-1000000<=Gf o/\Gf o<=1000000):=by
  obtain ⟨d1,a1,b1,c1⟩:=ZqZ h hv hc hx (Gd s) (.inl rfl:(0:Int)=0\/(0:Int)=1);obtain ⟨d2,a2,b2,c2⟩:=ZqZ h hv hc hx (Gf s) (.inl rfl:(0:Int)=0\/(0:Int)=1);obtain ⟨d3,a3,b3,c3⟩:=ZqZ h hv hc hx (Gd s) (.inr rfl:(1:Int)=0\/(1:Int)=1);obtain ⟨d4,a4,b4,c4⟩:=ZqZ h hv hc hx (Gf s) (.inr rfl:(1:Int)=0\/(1:Int)=1);obtain ⟨o1,e1,f1,g1⟩:=ZuR h hv hx s1.1 s1.2 (.inl rfl:(0:Int)=0\/(0:Int)=1);obtain ⟨o2,e2,f2,g2⟩:=ZuR h hv hx s2.1 s2.2 (.inl rfl:(0:Int)=0\/(0:Int)=1);obtain ⟨o3,e3,f3,g3⟩:=ZuR h hv hx s1.1 s1.2 (.inr rfl:(1:Int)=0\/(1:Int)=1);obtain ⟨o4,e4,f4,g4⟩:=ZuR h hv hx s2.1 s2.2 (.inr rfl:(1:Int)=0\/(1:Int)=1);have hl:atI (ZO.links v) (k:Int)=some x:=by rw[hv.links,Zm];exact hx
  refine ⟨(Min.min d1 d2,Max.max d3 d4,()),(Min.min o1 o2,Max.max o3 o4,()),?_,?_,?_,?_,?_,?_⟩
  · unfold Za7
    rw[a1,a2,a3,a4,hl,hv.extras];simp only[Bq];rw[Ud (by simp),e1,e2,e3,e4];rfl
  · unfold ZfH
    rw[b1,b2,b3,b4,f1,f2,f3,f4];rfl
  · show _<=Min.min d1 d2/\Min.min d1 d2<=_;omega
  · show _<=Max.max d3 d4/\Max.max d3 d4<=_;omega
  · show _<=Min.min o1 o2/\Min.min o1 o2<=_;omega
  · show _<=Max.max o3 o4/\Max.max o3 o4<=_;omega
def Zcf (n:Int) (l:List Zk) (k:Nat) (x:Zk):Prop :=
  (0<=Gl x/\Gl x<=n-1)/\(∀ y,0<k->l[k-1]?=some y->Gl y<Gl x)/\Zcu (GK x)/\Zij (GR x)
theorem Zjy {b:Za} (h:YT b) (l:List Zk) (hl:l.length<=1048576):ZcY b l=some (tr (ZfL l (Zcf (2*((places (KZ b)).length:Int)) l))):=by
  have hf:=h.ok.1.few;have hpl:=Z0 hf;unfold ZcY QB;rw[Yg _ hf,Bq,Bq,YZ (n:=2*((places (KZ b)).length:Int)) (by omega) (by omega)];rw[VL (l:=l) (show Len l by unfold Len;omega) (Zcf (2*((places (KZ b)).length:Int)) l) (bad:=false) (good:=true)
    (step:=λv=>Zaz l (2*((places (KZ b)).length:Int)) v.1)
    (λk x hx hk _=>by
      simp only[Zaz,show (k:Int)<(l.length:Int) from by omega,Uj,Zm,hx,Bq,VW,ZjK,Zln,YZ (show (-9223372036854775808:Int)<=2*((places (KZ b)).length:Int)-1 by omega) (by omega)];unfold Zcf;have fin:∀ (Q:Prop),(Q<->Zcu (GK x)/\Zij (GR x))->((Q->(if tr (Zcu (GK x))=true then if tr (Zij (GR x))=true then some (.inl (Wq ((k:Int)+1),())) else some (.inr false) else some (.inr false):Option ((Int×Unit) ⊕ Bool))=some (.inl (Wq ((k:Int)+1),())))/\
          (¬Q->(if tr (Zcu (GK x))=true then if tr (Zij (GR x))=true then some (.inl (Wq ((k:Int)+1),())) else some (.inr false) else some (.inr false):Option ((Int×Unit) ⊕ Bool))=some (.inr false))):=by
        intro Q hQ;constructor
        · intro q
          rw[Uc (ZU (hQ.1 q).1),Uc (ZU (hQ.1 q).2)]
        · intro q
          by_cases s1:Zcu (GK x)
          · rw[Uc (ZU s1),Ud (λs2=>q (hQ.2 ⟨s1,(YS _).1 s2⟩))]
          · rw[Ud (λs2=>s1 ((YS _).1 s2))]
      by_cases q1:0<=Gl x/\Gl x<=2*((places (KZ b)).length:Int)-1
      · rw[Uc (ZU q1)]
        by_cases hk0:k=0
        · subst hk0
          rw[Ud (show ¬(0:Int)<((0:Nat):Int) by omega)];refine fin _ ⟨λq=>q.2.2,λq=>⟨q1,λy h=>by omega,q⟩⟩
        · have hy:l[k-1]?=some l[k-1]:=Ua (by omega)
          have hy2:atI l ((k:Int)-1)=some l[k-1]:=YD (by omega) (by rw[<-hy];congr 1;omega);generalize l[k-1]=y at hy hy2;rw[Uc (by omega),YZ (n:=(k:Int)-1) (by omega) (by omega),hy2,Bq];by_cases q2:Gl x<=Gl y
          · rw[Uc q2]
            exact ⟨λq=>by have:=q.2.1 y (by omega) hy;omega,λ_=>rfl⟩
          · rw[Ud q2]
            refine fin _ ⟨λq=>q.2.2,λq=>⟨q1,λz _ hz=>?_,q⟩⟩;rw[hy] at hz;injection hz with hz;subst hz;omega
      · rw[Ud (λq=>q1 ((YS _).1 q))]
        exact ⟨λq=>absurd q.1 q1,λ_=>rfl⟩)
    (λ_=>by simp only[Zaz,Uf,Uh]),Zlj]
theorem Zi7 {b:Za} (h:YT b) (v:ZO) (hv:ZO.places v=places (KZ b)) (l:List Zk) (hl:l.length<=1048576):Vg v l=some (tr (ZfL l (Zcf (2*((places (KZ b)).length:Int)) l))):=by
  have hf:=h.ok.1.few;have hpl:=Z0 hf;have hnode:∀ n,Zd7 v n=some (tr (0<=n/\n<=2*((places (KZ b)).length:Int)-1)):=by
    intro n;unfold Zd7 Y6;rw[show Xm (ZO.places v)=some ((ZO.places v).length:Int) from rfl,Bq,Bq,hv,YZ (n:=2*((places (KZ b)).length:Int)) (by omega) (by omega),YZ (by omega) (by omega)];exact J4 (VO _ _ _)
  unfold Vg;rw[VL (l:=l) (show Len l by unfold Len;omega) (Zcf (2*((places (KZ b)).length:Int)) l) (bad:=false) (good:=true)
    (step:=λu=>Vl v l u.1)
    (λk x hx hk _=>by
      simp only[Vl,show (k:Int)<(l.length:Int) from by omega,Uj,Zm,hx,Bq,hnode,Zgm,Zla];unfold Zcf;by_cases q1:0<=Gl x/\Gl x<=2*((places (KZ b)).length:Int)-1
      · rw[Uc (ZU q1)]
        by_cases q3:Zcu (GK x)
        · rw[Uc (ZU q3)]
          by_cases q4:Zij (GR x)
          · rw[Uc (ZU q4)]
            by_cases hk0:k=0
            · subst hk0
              rw[Ud (show ¬(0:Int)<((0:Nat):Int) by omega)];exact ⟨λ_=>rfl,λq=>absurd ⟨q1,λy h=>by omega,q3,q4⟩ q⟩
            · have hy:l[k-1]?=some l[k-1]:=Ua (by omega)
              have hy2:atI l ((k:Int)-1)=some l[k-1]:=YD (by omega) (by rw[<-hy];congr 1;omega);generalize l[k-1]=y at hy hy2;rw[Uc (by omega),YZ (n:=(k:Int)-1) (by omega) (by omega),hy2,Bq];by_cases q2:Gl x<=Gl y
              · rw[Uc q2]
                exact ⟨λq=>by have:=q.2.1 y (by omega) hy;omega,λ_=>rfl⟩
              · rw[Ud q2]
                refine ⟨λ_=>rfl,λq=>absurd ⟨q1,λz _ hz=>?_,q3,q4⟩ q⟩;rw[hy] at hz;injection hz with hz;subst hz;omega
          · rw[Ud (λq=>q4 ((YS _).1 q))]
            exact ⟨λq=>absurd q.2.2.2 q4,λ_=>rfl⟩
        · rw[Ud (λq=>q3 ((YS _).1 q))]
          exact ⟨λq=>absurd q.2.2.1 q3,λ_=>rfl⟩
      · rw[Ud (λq=>q1 ((YS _).1 q))]
        exact ⟨λq=>absurd q.1 q1,λ_=>rfl⟩)
    (λ_=>by simp only[Vl,Uf,Uh]),Zlj]
def Zero (s:Zv):Prop:=Gd s=0/\Gf s=0
def ZyJ (t:Zh) (k:Nat) (r:Bool):Prop :=
  ∃ a s,(Gp t)[k]?=some a/\(Gm t)[k]?=some s/\Zcu a/\Zij s/\(r=false->Zero a/\Zero s)
def Zlw (n:Int) (t:Zh):Prop :=
  ((K9 t).length:Int)=n/\((Gp t).length:Int)=n/\((Gm t).length:Int)=n/\ZfL (K9 t) (ZyJ t)
theorem ZyF {ρ:Type} {t:Zh} {k:Nat} {x:Bool} {a s:Zv} {nx bd:ρ} (ha:(Gp t)[k]?=some a) (hs:(Gm t)[k]?=some s) :
    (ZyJ t k x->((if tr (Zcu a)=true then (if tr (Zij s)=true then (if x=true then some nx else if (Decidable.decide (Gd a=(0:Int))&&Decidable.decide (Gf a=(0:Int)))=true then (if (Decidable.decide (Gd s=(0:Int))&&Decidable.decide (Gf s=(0:Int)))=true then some nx else some bd) else some bd) else some bd) else some bd):Option ρ)=some nx)/\
    (¬ZyJ t k x->((if tr (Zcu a)=true then (if tr (Zij s)=true then (if x=true then some nx else if (Decidable.decide (Gd a=(0:Int))&&Decidable.decide (Gf a=(0:Int)))=true then (if (Decidable.decide (Gd s=(0:Int))&&Decidable.decide (Gf s=(0:Int)))=true then some nx else some bd) else some bd) else some bd) else some bd):Option ρ)=some bd):=by
  have hT:ZyJ t k x<->Zcu a/\Zij s/\(x=false->Zero a/\Zero s):=by
    constructor
    · rintro ⟨a',s',h1,h2,h3⟩
      rw[ha] at h1;rw[hs] at h2;injection h1 with h1;injection h2 with h2
      subst h1;subst h2;exact h3
    · exact λh=>⟨a,s,ha,hs,h⟩
  rw[hT];have hz:∀ u:Zv,((Decidable.decide (Gd u=(0:Int))&&Decidable.decide (Gf u=(0:Int)))=true)<->Zero u:=λu=>by
    unfold Zero;rw[Ur,Uk,Uk]
  by_cases c1:Zcu a
  · rw[Uc (ZU c1)]
    by_cases c2:Zij s
    · rw[Uc (ZU c2)]
      cases x
      · rw[Ud (by decide)]
        by_cases c3:Zero a
        · rw[Uc ((hz a).2 c3)]
          by_cases c4:Zero s
          · rw[Uc ((hz s).2 c4)]
            exact ⟨λ_=>rfl,λq=>absurd ⟨c1,c2,λ_=>⟨c3,c4⟩⟩ q⟩
          · rw[Ud (λq=>c4 ((hz s).1 q))]
            exact ⟨λq=>absurd (q.2.2 rfl).2 c4,λ_=>rfl⟩
        · rw[Ud (λq=>c3 ((hz a).1 q))]
          exact ⟨λq=>absurd (q.2.2 rfl).1 c3,λ_=>rfl⟩
      · rw[Uc rfl]
        exact ⟨λ_=>rfl,λq=>absurd ⟨c1,c2,λh=>by cases h⟩ q⟩
    · rw[Ud (λq=>c2 ((YS _).1 q))]
      exact ⟨λq=>absurd q.2.1 c2,λ_=>rfl⟩
  · rw[Ud (λq=>c1 ((YS _).1 q))]
    exact ⟨λq=>absurd q.1 c1,λ_=>rfl⟩
theorem Zlb {b:Za} (h:YT b) (v:ZO) (hv:ZO.places v=places (KZ b)) (t:Zh):Zak v t=some (tr (Zlw (2*((places (KZ b)).length:Int)) t)):=by
  have hpl:=Z0 h.ok.1.few;unfold Zak Y6;rw[show Xm (ZO.places v)=some ((ZO.places v).length:Int) from rfl,Bq,Bq,hv,YZ (n:=2*((places (KZ b)).length:Int)) (by omega) (by omega),
    show ZbU (K9 t)=some ((K9 t).length:Int) from rfl,show VI (Gp t)=some ((Gp t).length:Int) from rfl,show VI (Gm t)=some ((Gm t).length:Int) from rfl]
  simp only[Bq];unfold Zlw;refine Yq λq1=>Yq λq2=>Yq λq3=>?_;rw[VL (l:=K9 t) (show Len (K9 t) by unfold Len;omega) (ZyJ t) (bad:=false) (good:=true) (step:=λv=>VU t v.1)
    (λk x hx hk _=>by
      have ha:(Gp t)[k]?=some ((Gp t)[k]'(by omega)):=Ua _;have hs:(Gm t)[k]?=some ((Gm t)[k]'(by omega)):=Ua _;generalize (Gp t)[k]'(by omega)=a at ha;generalize (Gm t)[k]'(by omega)=s at hs;simp only[VU,show (k:Int)<((K9 t).length:Int) from by omega,Uj,Zm,hx,ha,hs,Bq,Zgm,Zla];exact ZyF ha hs)
    (λ_=>by simp only[VU,Uf,Uh]),Zlj]
theorem Zkb {n:Int} (h0:0<=n) (h1:n<=1048576) (t:Zh):ZdX n t=some (tr (Zlw n t)):=by
  unfold ZdX Zlw;refine Yq λq1=>Yq λq2=>Yq λq3=>?_;rw[VL (l:=K9 t) (show Len (K9 t) by unfold Len;omega) (ZyJ t) (bad:=false) (good:=true) (step:=λv=>ZaQ t v.1)
    (λk x hx hk _=>by
      have ha:(Gp t)[k]?=some ((Gp t)[k]'(by omega)):=Ua _;have hs:(Gm t)[k]?=some ((Gm t)[k]'(by omega)):=Ua _;generalize (Gp t)[k]'(by omega)=a at ha;generalize (Gm t)[k]'(by omega)=s at hs;simp only[ZaQ,show (k:Int)<((K9 t).length:Int) from by omega,Uj,Zm,hx,ha,hs,Bq,ZjK,Zln];exact ZyF ha hs)
    (λ_=>by simp only[ZaQ,Uf,Uh]),Zlj]
theorem Zhc {b:Za} (h:Few (KZ b)):QB b=some (2*((places (KZ b)).length:Int)):=by
  have hpl:=Z0 h;unfold QB;rw[Yg _ h,Bq,YZ (by omega) (by omega)]
abbrev NSt:=Option (Zv×Zv)
def ZqX:Zv:=((0:Int),(0:Int),())
def hul (a b:Zv):Zv:=(Min.min (Gd a) (Gd b),Max.max (Gf a) (Gf b),())
def ZAA (st:NSt) (a s:Zv):NSt:=match st with
  | none=>some (a,s)
  | some q=>some (hul q.1 a,hul q.2 s)
def ZuI (a d:Zv):Zv:=(Wq (Gd a+Gd d),Wq (Gf a+Gf d),())
def encI (node:Int) (st:NSt):Int×Int×Int×Int×Int×Bool×Unit:=match st with
  | none=>(node,0,0,0,0,false,())
  | some q=>(node,Gd q.1,Gf q.1,Gd q.2,Gf q.2,true,())
def Zyx (node:Int) (st:NSt):Bool×Zk:=match st with
  | none=>(false,((0:Int),ZqX,ZqX,()))
  | some q=>(true,(node,q.1,q.2,()))
theorem Zx1 (a b:Zv):hul a b=hul b a:=by unfold hul;rw[Int.min_comm,Int.max_comm]
noncomputable def spn (b:Za) (c:ZA) (x:Zx) (s:Zv):Zv×Zv:=(ZfH b c x s).getD (ZqX,ZqX)
noncomputable def Zwn (b:Za) (c:ZA) (t:Zh) (x:Zx) (st:NSt):NSt :=
  if (atI (K9 t) (GA x)).getD false=true then ZAA st (ZuI ((atI (Gp t) (GA x)).getD ZqX) (spn b c x ((atI (Gm t) (GA x)).getD ZqX)).1) (spn b c x ((atI (Gm t) (GA x)).getD ZqX)).2 else st
def ZBQ (s:Zv):Prop:=(-1000000<=Gd s/\Gd s<=1000000)/\(-1000000<=Gf s/\Gf s<=1000000)
structure ZpW (n:Nat) (t:Zh):Prop where
  lr:(K9 t).length=n
  la:(Gp t).length=n
  ls:(Gm t).length=n
  sl:∀ s∈Gm t,ZBQ s
theorem ZwM {b:Za} (h:YT b) {t:Zh} (ht:ZpW (2*(places (KZ b)).length) t) {x:Zx} (hx:x∈Zy b) :
    ∃ r a s,atI (K9 t) (GA x)=some r/\atI (Gp t) (GA x)=some a/\atI (Gm t) (GA x)=some s/\ZBQ s:=by
  have hf:=(Zhk h hx).1;obtain ⟨r,hr,_⟩:=Zkn (l:=K9 t) hf.1 (by rw[ht.lr];omega);obtain ⟨a,ha,_⟩:=Zkn (l:=Gp t) hf.1 (by rw[ht.la];omega);obtain ⟨s,hs,hm⟩:=Zkn (l:=Gm t) hf.1 (by rw[ht.ls];omega);exact ⟨r,a,s,hr,ha,hs,ht.sl s hm⟩
theorem ZvD (node:Int) (st:NSt) (a s:Zv):∃ j,J7 (node,((encI node st).2.1,(encI node st).2.2.1,()),((encI node st).2.2.2.1,(encI node st).2.2.2.2.1,()),()) (encI node st).2.2.2.2.2.1 a s=some j/\(j.fst.fst,j.fst.snd.fst.fst,j.fst.snd.fst.snd.fst,j.fst.snd.snd.fst.fst,j.fst.snd.snd.fst.snd.fst,j.snd,())=encI node (ZAA st a s):=by
  cases st with
  | none=>exact ⟨_,rfl,rfl⟩
  | some q=>exact ⟨_,rfl,rfl⟩
theorem ZsT {b:Za} (h:YT b) {v:ZO} (hv:VOk b v) {c:ZA} (hc:ZaH c) {live:List Bool} {t:Zh} (ht:ZpW (2*(places (KZ b)).length) t) {L:List Int} {node:Int} {m k:Nat} {x:Zx} (hm:L[m]?=some (k:Int)) (hx:(Zy b)[k]?=some x) (hL:m<=1048576) (st:NSt) :
    Xv (v,live,()) c t L (m:Int) (encI node st).1 (encI node st).2.1 (encI node st).2.2.1 (encI node st).2.2.2.1 (encI node st).2.2.2.2.1 (encI node st).2.2.2.2.2.1=some (.inl (((m+1:Nat):Int),encI node (Zwn b c t x st))):=by
  have hk:=(Ub.1 hm).1;obtain ⟨r,a,s,hr,ha,hs,hsb⟩:=ZwM h ht (Ue hx);obtain ⟨d,o,e1,e2,_⟩:=spans_eq h hv hc hx hsb.1 hsb.2;have hl:atI (ZO.links (GP ((v,live,()):Ym))) (k:Int)=some x:=by
    show atI (ZO.links v) (k:Int)=some x;rw[hv.links,Zm];exact hx
  have hsp:spn b c x s=(d,o):=by unfold spn;rw[e2];rfl
  have hu:Zwn b c t x st=if r=true then ZAA st (ZuI a d) o else st:=by
    unfold Zwn;rw[hr,ha,hs];simp only[UJ,hsp]
  have hn:(encI node st).1=node:=by cases st<;>rfl
  obtain ⟨j,j1,j2⟩:=ZvD node st (ZuI a d) o;unfold Xv;rw[Uc (by omega),Zm,hm,Bq,hl,Bq,hr,Bq,hu];by_cases q:r=true
  · rw[Uc q,Uc q,hs,Bq]
    show (Za7 v c (k:Int) s).bind _=_;rw[e1,Bq,ha,Bq];show (J7 _ _ (ZuI a d) o).bind _=_;rw[hn,j1,Bq,Y4 hL,<-j2]
  · rw[Ud q,Ud q,Y4 hL]
theorem Zui {g:Ym} {c:ZA} {t:Zh} {L:List Int} {node:Int} (st:NSt) :
    Xv g c t L (L.length:Int) (encI node st).1 (encI node st).2.1 (encI node st).2.2.1 (encI node st).2.2.2.1 (encI node st).2.2.2.2.1 (encI node st).2.2.2.2.2.1=some (.inr (Zyx node st)):=by
  unfold Xv;rw[Ud (Uf _)];cases st<;>rfl
theorem ZsS {b:Za} (h:YT b) {v:ZO} (hv:VOk b v) {c:ZA} (hc:ZaH c) {live:List Bool} {t:Zh} (ht:ZpW (2*(places (KZ b)).length) t) {L:List Int} {node:Int} (hl:L.length<=1048576) {f:Int->NSt->NSt}
    (hf:∀ y∈L,∃ (k:Nat) (x:Zx),y=(k:Int)/\(Zy b)[k]?=some x/\∀ st,f y st=Zwn b c t x st) (st0:NSt) :
    Zq (λu=>Xv (v,live,()) c t L u.1 u.2.1 u.2.2.1 u.2.2.2.1 u.2.2.2.2.1 u.2.2.2.2.2.1 u.2.2.2.2.2.2.1) ((0:Int),encI node st0)=some (Zyx node (foldI (λ_ y st=>f y st) 0 L st0)):=by
  refine ZeM (l:=L) (by unfold Len;omega) (λst i=>(i,encI node st)) (f:=λ_ y st=>f y st) (s0:=st0) (λ_ _=>True) trivial (λm y st hy _ _=>⟨?_,trivial⟩) (λst _ he=>?_)
  · have hm:=(Ub.1 hy).1
    obtain ⟨k,x,rfl,hx,hu⟩:=hf y (Ue hy);rw[hu,Y4 (by omega)];exact ZsT h hv hc ht hy hx (by omega) st
  · rw[<-he]
    exact Zui st
def encS (node:Int) (st:NSt) (i:Int):Bool×Int×Int×Int×Int×Int×Int×Unit:=match st with
  | none=>(false,i,0,0,0,0,0,())
  | some q=>(true,i,node,Gd q.1,Gf q.1,Gd q.2,Gf q.2,())
theorem Ztn {b:Za} (h:YT b) {v:ZO} (hv:VOk b v) {c:ZA} (hc:ZaH c) {live:List Bool} {t:Zh} (ht:ZpW (2*(places (KZ b)).length) t) {node:Int} {k:Nat} {x:Zx} {lv:Bool} (hx:(Zy b)[k]?=some x) (hlv:live[k]?=some lv) (hk:k<=1048576) (st:NSt) :
    Qq b c (Zy b) live t node (encS node st (k:Int)).1 (k:Int) (encS node st (k:Int)).2.2.1 (encS node st (k:Int)).2.2.2.1 (encS node st (k:Int)).2.2.2.2.1 (encS node st (k:Int)).2.2.2.2.2.1 (encS node st (k:Int)).2.2.2.2.2.2.1=some (.inl (encS node (if lv=true then (if Gw x=node then Zwn b c t x st else st) else st) ((k+1:Nat):Int))):=by
  have hkl:=(Ub.1 hx).1;obtain ⟨r,a,s,hr,ha,hs,hsb⟩:=ZwM h ht (Ue hx);obtain ⟨d,o,e1,e2,_⟩:=spans_eq h hv hc hx hsb.1 hsb.2;have hsp:spn b c x s=(d,o):=by unfold spn;rw[e2];rfl
  have hu:Zwn b c t x st=if r=true then ZAA st (ZuI a d) o else st:=by
    unfold Zwn;rw[hr,ha,hs];simp only[UJ,hsp]
  unfold Qq;rw[Uc (by omega),Zm,hx,Bq,Zm,hlv,Bq,Y4 hk];by_cases q1:lv=true
  · rw[Uc q1,Uc q1]
    by_cases q2:Gw x=node
    · rw[Uc q2,Uc q2,hr,Bq,hu]
      by_cases q3:r=true
      · rw[Uc q3,Uc q3,hs,Bq,e2,Bq,ha,Bq]
        cases st with
        | none=>rfl
        | some q =>
          show some (Sum.inl (true,((k+1:Nat):Int),node,Gd (hul (ZuI a d) q.1),Gf (hul (ZuI a d) q.1),Gd (hul o q.2),Gf (hul o q.2),()))=_;rw[Zx1 (ZuI a d),Zx1 o];rfl
      · rw[Ud q3,Ud q3]
        cases st<;>rfl
    · rw[Ud q2,Ud q2]
      cases st<;>rfl
  · rw[Ud q1,Ud q1]
    cases st<;>rfl
def toF (live:List Bool) (node:Int) (k:Nat) (x:Zx):List Int:=if (live[k]?).getD false=true then (if Gw x=node then [(k:Int)] else []) else []
def toL (b:Za) (live:List Bool) (node:Int):List Int:=cat (toF live node) 0 (Zy b)
theorem ZFt (live:List Bool) (node:Int) (k:Nat) (x:Zx):(toF live node k x).length<=1:=by
  unfold toF;split
  · split<;>simp
  · simp
theorem Zxt {b:Za} (h:YT b) (live:List Bool) (node:Int) (n:Nat):(cat (toF live node) 0 ((Zy b).take n)).length<=6000:=by
  have h1:=ZaE (f:=toF live node) (c:=1) (l:=(Zy b).take n) (m:=0) (λk x _=>ZFt live node k x);have h2:=Vq h;rw[Ui] at h1;omega
theorem Zrt {b:Za} (h:YT b) {v:ZO} (hv:VOk b v) {live:List Bool} (hl:live.length=(Zy b).length) (node:Int):ZbA (v,live,()) node=some (toL b live node):=by
  have h6:=Vq h;have el:ZO.links (GP ((v,live,()):Ym))=Zy b:=hv.links;have ev:Ym.live ((v,live,()):Ym)=live:=rfl;unfold ZbA Qj;have:=Xr (l:=Zy b) (ρ:=List Int) (toF live node) [] (step:=λu=>Y1 (v,live,()) (node,()) u.1 u.2.1) (good:=toL b live node)
    (λk x hx hk=>by
      have hlv:live[k]?=some (live[k]'(by omega)):=Ua _;have hlen:=Zxt h live node k;simp only[Y1,el,ev,show (k:Int)<((Zy b).length:Int) from by omega,Uj,Zm,hx,hlv,Bq,Zg7,Us,Y4 (show k<=1048576 by omega)];unfold toF at *;rw[hlv];simp only[UJ];by_cases q1:live[k]'(by omega)=true
      · rw[Uc q1,Uc q1]
        by_cases q2:Gw x=node
        · rw[Uc (UX q2),Uc q2,Zg (by simp only[Uz,Ux];omega)]
        · rw[Ud (by rw[Uk];exact q2),Ud q2,Uo]
      · rw[Ud q1,Ud q1,Uo])
    (by simp only[Y1,el,Uf,Uh,Us];rfl)
  rw[this];rfl
theorem Zvv {β σ:Type} (f:β->σ->σ):∀ (l:List β) (m n:Nat) (s:σ),foldI (λ_ y s=>f y s) m l s=foldI (λ_ y s=>f y s) n l s
  | [],_,_,_=>rfl
  | x::l,m,n,s=>by simp only[foldI];exact Zvv f l _ _ _
theorem Zn1 {α β σ:Type} {g:Nat->α->List β} (f:β->σ->σ):∀ (l:List α) (m:Nat) (s:σ),foldI (λ_ y s=>f y s) 0 (cat g m l) s=foldI (λk x s=>foldI (λ_ y s=>f y s) 0 (g k x) s) m l s
  | [],_,_=>rfl
  | x::l,m,s=>by
    show foldI (λ_ y s=>f y s) 0 (g m x++cat g (m+1) l) s=_;rw[Zi2,Zvv f (cat g (m+1) l) _ 0,Zn1 f l (m+1)];rfl
theorem Zrm {α σ:Type} {f g:Nat->α->σ->σ}:∀ (l:List α) (m:Nat) (s:σ),(∀ k x s,l[k]?=some x->f (m+k) x s=g (m+k) x s)->foldI f m l s=foldI g m l s
  | [],_,_,_=>rfl
  | x::l,m,s,h=>by
    simp only[foldI];have h0:=h 0 x s rfl;rw[Kd] at h0;rw[h0];refine Zrm l (m+1) _ λk y s hy=>?_;rw[show m+1+k=m+(k+1) by omega];exact h (k+1) y s (by rw[U8];exact hy)
def Zk1 (l:List Zk) (node:Int):NSt:=foldI (λ_ x st=>if Gl x=node then some (GK x,GR x) else st) 0 l none
def ZxA (l:List Zk):Prop:=∀ (i j:Nat) (x y:Zk),l[i]?=some x->l[j]?=some y->Gl x=Gl y->i=j
theorem ZuV {l:List Zk} (hl:Len l) {b:Za} {c:ZA} {L:List Zx} {live:List Bool} {t:Zh} {node:Int} {R:Bool×Zk}
    (hR:Zq (λv=>Qq b c L live t node v.1 v.2.1 v.2.2.1 v.2.2.2.1 v.2.2.2.2.1 v.2.2.2.2.2.1 v.2.2.2.2.2.2.1) (encS node (Zk1 l node) 0)=some (.inr R)):Ze0 b c L live l t node=some R:=by
  unfold Ze0;refine ZeM (l:=l) hl (λst i=>encS node st i) (f:=λ_ x st=>if Gl x=node then some (GK x,GR x) else st) (s0:=none) (λ_ _=>True) trivial (λk x st hx _ _=>⟨?_,trivial⟩) (λst _ he=>?_)
  · have hk:=(Ub.1 hx).1
    have e:∀ st:NSt,(encS node st (k:Int)).2.1=(k:Int):=λst=>by cases st<;>rfl
    show Zay b c L live l t node (encS node st (k:Int)).1 (encS node st (k:Int)).2.1 (encS node st (k:Int)).2.2.1 (encS node st (k:Int)).2.2.2.1 (encS node st (k:Int)).2.2.2.2.1 (encS node st (k:Int)).2.2.2.2.2.1 (encS node st (k:Int)).2.2.2.2.2.2.1=_;rw[e];unfold Zay;rw[Uc (by omega),Zm,hx,Bq];by_cases q:Gl x=node
    · rw[Uc q,Uc q,q]
      rfl
    · rw[Ud q,Ud q]
      cases st<;>rfl
  · have es:st=Zk1 l node:=he
    subst es;have e:∀ st:NSt,(encS node st (l.length:Int)).2.1=(l.length:Int):=λst=>by cases st<;>rfl
    show Zay b c L live l t node (encS node (Zk1 l node) (l.length:Int)).1 (encS node (Zk1 l node) (l.length:Int)).2.1 (encS node (Zk1 l node) (l.length:Int)).2.2.1 (encS node (Zk1 l node) (l.length:Int)).2.2.2.1 (encS node (Zk1 l node) (l.length:Int)).2.2.2.2.1 (encS node (Zk1 l node) (l.length:Int)).2.2.2.2.2.1 (encS node (Zk1 l node) (l.length:Int)).2.2.2.2.2.2.1=_;rw[e];unfold Zay;rw[Ud (Uf _),<-hR];cases Zk1 l node<;>rfl
theorem Ztm {b:Za} (h:YT b) {v:ZO} (hv:VOk b v) {c:ZA} (hc:ZaH c) {live:List Bool} (hl:live.length=(Zy b).length) {t:Zh} (ht:ZpW (2*(places (KZ b)).length) t) {node:Int} (st0:NSt) :
    Zq (λv=>Qq b c (Zy b) live t node v.1 v.2.1 v.2.2.1 v.2.2.2.1 v.2.2.2.2.1 v.2.2.2.2.2.1 v.2.2.2.2.2.2.1) (encS node st0 0)=some (.inr (Zyx node (foldI (λk x st=>if (live[k]?).getD false=true then (if Gw x=node then Zwn b c t x st else st) else st) 0 (Zy b) st0))):=by
  have h6:=Vq h;refine ZeM (l:=Zy b) (by unfold Len;omega) (λst i=>encS node st i) (f:=λk x st=>if (live[k]?).getD false=true then (if Gw x=node then Zwn b c t x st else st) else st) (s0:=st0) (λ_ _=>True) trivial (λk x st hx _ _=>⟨?_,trivial⟩) (λst _ he=>?_)
  · have hk:=(Ub.1 hx).1
    have hlv:live[k]?=some (live[k]'(by omega)):=Ua _;have e:∀ st:NSt,(encS node st (k:Int)).2.1=(k:Int):=λst=>by cases st<;>rfl
    have:=Ztn h hv hc ht (node:=node) hx hlv (by omega) st;rw[hlv,UJ,Y4 (by omega),<-this];show Qq b c (Zy b) live t node (encS node st (k:Int)).1 (encS node st (k:Int)).2.1 _ _ _ _ _=_;rw[e]
  · rw[<-he]
    have e:∀ st:NSt,(encS node st ((Zy b).length:Int)).2.1=((Zy b).length:Int):=λst=>by cases st<;>rfl
    show Qq b c (Zy b) live t node (encS node st ((Zy b).length:Int)).1 (encS node st ((Zy b).length:Int)).2.1 _ _ _ _ _=_;rw[e];unfold Qq;rw[Ud (Uf _)];cases st<;>rfl
theorem ZuX {node:Int}:∀ (l:List Zk) (m:Nat) (st:NSt),(∀ x∈l,Gl x≠node)->foldI (λ_ x st=>if Gl x=node then some (GK x,GR x) else st) m l st=st
  | [],_,_,_=>rfl
  | x::l,m,st,h=>by
    simp only[foldI];rw[Ud (h x KN)];exact ZuX l (m+1) st λy hy=>h y (List.mem_cons_of_mem _ hy)
theorem ZDc {l:List Zk} (h1:ZxA l) {i:Nat} {x:Zk} (hx:l[i]?=some x) {node:Int} (hn:Gl x=node):Zk1 l node=some (GK x,GR x):=by
  have hi:=(Ub.1 hx).1;have e:l=l.take i++x::l.drop (i+1):=by
    have:=Ki i l;rw[Ka hi,(Ub.1 hx).2] at this;exact this.symm
  have hrest:∀ y∈l.drop (i+1),Gl y≠node:=λy hy q=>by
    obtain ⟨j,hj⟩:=UE.1 hy;rw[Kb] at hj;have:=h1 i (i+1+j) x y hx hj (by rw[hn,q]);omega
  unfold Zk1;rw[e,Zi2];simp only[foldI];rw[Uc hn];exact ZuX _ _ _ hrest
theorem Zxm {l:List Zk} (hl:Len l) (h1:ZxA l) (node:Int):∃ r:Zk×Bool,ZhO l node=some r/\(r.2=true->Zk1 l node=some (GK r.1,GR r.1))/\(r.2=false->Zk1 l node=none):=by
  unfold ZhO;rw[QS hl (λx=>decide (Gl x=node)) (λx _=>rfl),Bq];unfold JB;cases e:l.findIdx? (λx=>decide (Gl x=node)) with
  | none =>
    rw[Ud (by decide)];refine ⟨_,rfl,(λq=>Bool.noConfusion q),λ_=>?_⟩;rw[List.findIdx?_eq_none_iff] at e;exact ZuX l 0 none λx hx q=>by have:=e x hx;rw[Kj] at this;exact this q
  | some i =>
    rw[Kg] at e;obtain ⟨hi,hp,_⟩:=e;have hx:l[i]?=some l[i]:=Ua hi;dsimp only;rw[Uc (by omega),Zm,hx,Bq];exact ⟨_,rfl,λ_=>ZDc h1 hx (of_decide_eq_true hp),λq=>Bool.noConfusion q⟩
noncomputable def ZlV (b:Za) (c:ZA) (live:List Bool) (l:List Zk) (t:Zh) (node:Int):NSt:=foldI (λk x st=>if (live[k]?).getD false=true then (if Gw x=node then Zwn b c t x st else st) else st) 0 (Zy b) (Zk1 l node)
theorem Zwc {b:Za} (h:YT b) {v:ZO} (hv:VOk b v) {c:ZA} (hc:ZaH c) {live:List Bool} (hl:live.length=(Zy b).length) {t:Zh} (ht:ZpW (2*(places (KZ b)).length) t) {l:List Zk} (hs:Len l) (node:Int) :
    Ze0 b c (Zy b) live l t node=some (Zyx node (ZlV b c live l t node)) :=
  ZuV hs (Ztm h hv hc hl ht (Zk1 l node))
theorem ZvF {b:Za} (h:YT b) {v:ZO} (hv:VOk b v) {c:ZA} (hc:ZaH c) {live:List Bool} (hl:live.length=(Zy b).length) {t:Zh} (ht:ZpW (2*(places (KZ b)).length) t) {l:List Zk} (hs:Len l) (h1:ZxA l) (node:Int) :
    Vd (v,live,()) c l t node=some (Zyx node (ZlV b c live l t node)):=by
  obtain ⟨r,r1,r2,r3⟩:=Zxm hs h1 node;have hlen:=Zxt h live node (Zy b).length;rw[Um] at hlen;have hto:=Zrt h hv hl node
  let f:Int->NSt->NSt:=λy st=>match (Zy b)[y.toNat]? with
    | some x=>Zwn b c t x st
    | none=>st
  have hf:∀ y∈toL b live node,∃ (k:Nat) (x:Zx),y=(k:Int)/\(Zy b)[k]?=some x/\∀ st,f y st=Zwn b c t x st:=λy hy=>by
    obtain ⟨k,x,hx,hyx⟩:=X8.1 hy;rw[Uw] at hyx;unfold toF at hyx;split at hyx
    · split at hyx
      · have ey:=Uu.1 hyx
        refine ⟨k,x,ey,hx,λst=>?_⟩;show (match (Zy b)[y.toNat]? with
          | some x=>Zwn b c t x st
          | none=>st)=_
        rw[ey,Up,hx]
      · cases hyx
    · cases hyx
  have key:=ZsS h hv hc ht (live:=live) (L:=toL b live node) (node:=node) (by unfold toL;omega) hf (Zk1 l node);have efold:foldI (λ_ y st=>f y st) 0 (toL b live node) (Zk1 l node)=ZlV b c live l t node:=by
    unfold toL ZlV;rw[Zn1 f];refine Zrm _ _ _ λk x st hx=>?_;rw[Uw];unfold toF;split
    · split
      · show (match (Zy b)[((k:Nat):Int).toNat]? with
          | some x=>Zwn b c t x st
          | none=>st)=_
        rw[Up,hx]
      · rfl
    · rfl
  rw[efold] at key;unfold Vd;rw[r1,Bq,hto];cases e:r.2 with
  | true =>
    rw[Uc rfl];rw[r2 e] at key;exact key
  | false =>
    rw[Ud (by decide),Bq];rw[r3 e] at key;exact key
def cw (live:List Bool) (out:List Int) (v:Int) (k:Nat) (x:Zx):Nat:=if (live[k]?).getD false=true then (if Gw x=v then (if GA x∈out then 0 else 1) else 0) else 0
def Zmq (live:List Bool) (L:List Zx) (out:List Int) (v:Int):Nat:=foldI (λk x s=>s+cw live out v k x) 0 L 0
def nxt (live:List Bool) (L:List Zx) (n:Nat) (out:List Int):Option Nat:=(List.range n).find? λv=>decide ((v:Int) ∉ out)&&decide (Zmq live L out (v:Int)=0)
def Zzy (live:List Bool) (L:List Zx) (n:Nat):Nat->List Int->List Int×Bool
  | 0,out=>(out,true)
  | m+1,out=>match nxt live L n out with
    | none=>([],false)
    | some v=>Zzy live L n m (out++[(v:Int)])
def Zpz (n:Nat) (p:Nat->Bool):List Bool:=(List.range n).map p
theorem ZgC {n:Nat} {p:Nat->Bool} {v:Nat} (h:v<n):(Zpz n p)[v]?=some (p v):=by
  unfold Zpz;rw[UI,Kh h];rfl
theorem Zq4 (n:Nat) (p:Nat->Bool):(Zpz n p).length=n:=by unfold Zpz;simp
theorem Zyg {n:Nat} {p q:Nat->Bool} {i:Nat} {b:Bool} (hi:i<n) (h1:q i=b) (h2:∀ j,j≠i->q j=p j):List.set (Zpz n p) i b=Zpz n q:=by
  apply UD;intro j;rw[UQ];by_cases c:i=j
  · subst c
    rw[Uc rfl,Uc (by rw[Zq4];exact hi),ZgC hi,h1]
  · rw[Ud c]
    by_cases hj:j<n
    · rw[ZgC hj,ZgC hj,h2 j (λe=>c e.symm)]
    · rw[UC (by rw[Zq4];omega),UC (by rw[Zq4];omega)]
theorem ZtI (n:Nat):List.replicate n false=Zpz n λ_=>false:=by
  apply UD;intro j;by_cases hj:j<n
  · rw[ZgC hj,Kc,Uc hj]
  · rw[UC (by rw[UW];omega),UC (by rw[Zq4];omega)]
structure Zzt (live:List Bool) (L:List Zx) (n:Nat):Prop where
  few:L.length<=6000
  ll:live.length=L.length
  n0:n<=1000
  bd:∀ x∈L,(0<=GA x/\GA x<(n:Int))/\0<=Gw x/\Gw x<(n:Int)
theorem ZdM {live:List Bool} {L:List Zx} {out:List Int} {v:Int} {k:Nat} {x:Zx} (hx:L[k]?=some x):Zmq live (L.take (k+1)) out v=Zmq live (L.take k) out v+cw live out v k x:=by
  unfold Zmq;rw[Zid hx]
theorem Zzl {live:List Bool} {L:List Zx} {n:Nat} (h:Zzt live L n) {out:List Int} {Q:(List Int×List Bool×Unit) ⊕ (List Int×Bool)}
    (hQ:Zq (λv=>Xy (n:Int) out (Zpz n λv=>decide ((v:Int)∈out)) (Zpz n λv=>decide (Zmq live L out (v:Int)≠0)) v.1) ((0:Int),())=some (.inr Q)) :
    Zq (λv=>JO (n:Int) L live out (Zpz n λv=>decide ((v:Int)∈out)) v.1 v.2.1) ((0:Int),List.replicate (Int.toNat (n:Int)) false,())=some Q:=by
  have hf:=h.few;have hll:=h.ll;refine Yy L.length (λk v=>v=((k:Int),Zpz n (λv=>decide (Zmq live (L.take k) out (v:Int)≠0)),())) _ ?_ ?_ ?_
  · rw[Up,ZtI]
    rfl
  · rintro k _ hkl rfl
    have hx:L[k]?=some (L[k]'(by omega)):=Ua _;have hlv:live[k]?=some (live[k]'(by omega)):=Ua _;generalize L[k]'(by omega)=x at hx;generalize live[k]'(by omega)=lv at hlv;obtain ⟨⟨f0,f1⟩,t0,t1⟩:=h.bd x (Ue hx);have hfrom:atI (Zpz n λv=>decide ((v:Int)∈out)) (GA x)=some (decide (GA x∈out)):=by
      refine YD f0 ?_;rw[ZgC (by omega),show ((GA x).toNat:Int)=GA x by omega]
    have hto:∀ p:Nat->Bool,atI (Zpz n p) (Gw x)=some (p (Gw x).toNat):=λp=>YD t0 (ZgC (by omega));refine .inl ⟨(((k+1:Nat):Int),Zpz n (λv=>decide (Zmq live (L.take (k+1)) out (v:Int)≠0)),()),?_,rfl⟩;simp only[JO,show (k:Int)<(L.length:Int) from by omega,Uj,Zm,hx,hlv,Bq,hfrom,hto,Y4 (show k<=1048576 by omega)];have hsame:(∀ v:Nat,cw live out (v:Int) k x=0)->Zpz n (λv=>decide (Zmq live (L.take (k+1)) out (v:Int)≠0))=Zpz n (λv=>decide (Zmq live (L.take k) out (v:Int)≠0)):=λhz=>by
      unfold Zpz;refine KK λv _=>?_;rw[ZdM hx,hz,Kd]
    by_cases q1:lv=true
    · rw[Uc q1]
      by_cases q2:GA x∈out
      · rw[Uc (UX q2),hsame (λv=>by unfold cw;rw[hlv,UJ,Uc q1,Uc q2];split<;>rfl)]
      · rw[Ud (by rw[Uk];exact q2)]
        rw[Zyg (q:=λv=>decide (Zmq live (L.take (k+1)) out (v:Int)≠0)) (by omega) ?_ ?_]
        · rw[Uk,ZdM hx]
          unfold cw;rw[hlv,UJ,Uc q1,Uc (by omega),Ud q2];omega
        · intro j hj
          rw[ZdM hx];unfold cw;rw[hlv,UJ,Uc q1,Ud (by omega),Kd]
    · rw[Ud q1,hsame (λv=>by unfold cw;rw[hlv,UJ,Ud q1])]
  · rintro _ rfl
    show JO (n:Int) L live out (Zpz n λv=>decide ((v:Int)∈out)) (L.length:Int) (Zpz n λv=>decide (Zmq live (L.take L.length) out (v:Int)≠0))=_;unfold JO;rw[Ud (Uf _),Um];exact hQ
theorem ZBm {live:List Bool} {L:List Zx} {n:Nat} (h:Zzt live L n) {out:List Int} (ho:out.length<=1000) :
    Zq (λv=>Xy (n:Int) out (Zpz n λv=>decide ((v:Int)∈out)) (Zpz n λv=>decide (Zmq live L out (v:Int)≠0)) v.1) ((0:Int),()) =
      some (.inr (match nxt live L n out with
        | none=>.inr ([],false)
        | some v=>.inl (out++[(v:Int)],Zpz n (λu=>decide ((u:Int)∈out++[(v:Int)])),()))):=by
  have hn:=h.n0;have step:∀ k:Nat,k<n->(decide ((k:Int) ∉ out)&&decide (Zmq live L out (k:Int)=0))=false->Xy (n:Int) out (Zpz n λv=>decide ((v:Int)∈out)) (Zpz n λv=>decide (Zmq live L out (v:Int)≠0)) (k:Int)=some (.inl (((k+1:Nat):Int),())):=λk hk hp=>by
    unfold Xy;rw[Uc (by omega),Zm,ZgC hk,Bq,Y4 (by omega)];by_cases q:(k:Int)∈out
    · rw[Uc (UX q)]
    · rw[Ud (by rw[Uk];exact q),Zm,ZgC hk,Bq]
      have hw:Zmq live L out (k:Int)≠0:=λz=>by
        rw[UX q,UX z] at hp;exact Bool.noConfusion hp
      rw[Uc (UX hw)]
  cases e:nxt live L n out with
  | none =>
    unfold nxt at e;rw[List.find?_range_eq_none] at e;refine Yy n (λk v=>v=((k:Int),())) _ rfl ?_ ?_
    · rintro k _ hk rfl
      exact .inl ⟨_,step k hk (by have:=e k hk;rw[UP] at this;exact this),rfl⟩
    · rintro _ rfl
      show Xy _ _ _ _ (n:Int)=_;unfold Xy;rw[Ud (Uf _),Uc rfl]
  | some v =>
    unfold nxt at e;rw[List.find?_range_eq_some] at e;obtain ⟨hp,hv,hlow⟩:=e;have hv:=Kz.1 hv;rw[Ur,Uk,Uk] at hp;refine Yy v (λk u=>u=((k:Int),())) _ rfl ?_ ?_
    · rintro k _ hk rfl
      exact .inl ⟨_,step k (by omega) (by have:=hlow k hk;rw[UP] at this;exact this),rfl⟩
    · rintro _ rfl
      show Xy _ _ _ _ (v:Int)=_;unfold Xy;rw[Uc (by omega),Zm,ZgC hv,Bq,Ud (by rw[Uk];exact hp.1),Zm,ZgC hv,Bq,Ud (by rw[Uk];exact λz=>z hp.2),Ud (by omega),Zg (by simp only[Uz,Ux];omega),Up];rw[Zyg (q:=λu=>decide ((u:Int)∈out++[(v:Int)])) hv (UX (UB.2 (.inr (Uu.2 rfl)))) (λj hj=>by
        rw[Km,UB,Uu];constructor
        · rintro (z | z)
          · exact z
          · omega
        · exact .inl)]
theorem Zsv {live:List Bool} {L:List Zx} {n:Nat} (h:Zzt live L n):∀ (m:Nat) (out:List Int),out.length+m=n->
    Zq (λv=>Vw (n:Int) L live v.1 v.2.1) (out,Zpz n (λu=>decide ((u:Int)∈out)),())=some (Zzy live L n m out)
  | 0,out,hm=>by
    refine Xn ?_;show Vw (n:Int) L live out _=_;unfold Vw;rw[Ud (by omega)];rfl
  | m+1,out,hm=>by
    have hn:=h.n0;have hw:=Zzl h (ZBm h (out:=out) (by omega));have hs:Vw (n:Int) L live out (Zpz n (λu=>decide ((u:Int)∈out)))=some (match nxt live L n out with
        | none=>.inr ([],false)
        | some v=>.inl (out++[(v:Int)],Zpz n (λu=>decide ((u:Int)∈out++[(v:Int)])),())):=by
      unfold Vw;rw[Uc (by omega)];exact hw
    unfold Zzy;cases e:nxt live L n out with
    | none =>
      rw[e] at hs;exact Xn hs
    | some v =>
      rw[e] at hs;exact (Xq hs).trans (Zsv h m (out++[(v:Int)]) (by rw[Ug];simp only[Uz,Ux];omega))
theorem ZuU {live:List Bool} {L:List Zx} {n:Nat} (h:Zzt live L n):Zh7 (n:Int) L live=some (Zzy live L n n []):=by
  have hn:=h.n0;unfold Zh7;rw[Zg (by omega),Zg (by omega),Zg (by omega),Zg (by omega),Up,ZtI];have:=Zsv h n [] (by simp);simpa using this
def ZnL (n:Nat) (p:Nat->Int):List Int:=(List.range n).map p
theorem ZgA {n:Nat} {p:Nat->Int} {v:Nat} (h:v<n):(ZnL n p)[v]?=some (p v):=by
  unfold ZnL;rw[UI,Kh h];rfl
theorem ZgB (n:Nat) (p:Nat->Int):(ZnL n p).length=n:=by unfold ZnL;simp
theorem Zux {n:Nat} {p q:Nat->Int} {i:Nat} {b:Int} (hi:i<n) (h1:q i=b) (h2:∀ j,j≠i->q j=p j):List.set (ZnL n p) i b=ZnL n q:=by
  apply UD;intro j;rw[UQ];by_cases c:i=j
  · subst c
    rw[Uc rfl,Uc (by rw[ZgB];exact hi),ZgA hi,h1]
  · rw[Ud c]
    by_cases hj:j<n
    · rw[ZgA hj,ZgA hj,h2 j (λe=>c e.symm)]
    · rw[UC (by rw[ZgB];omega),UC (by rw[ZgB];omega)]
def ZsP (live:List Bool) (node:Int) (k:Nat) (x:Zx):List Int:=if (live[k]?).getD false=true then (if GA x=node then [(k:Int)] else []) else []
def Zvy (b:Za) (live:List Bool) (node:Int):List Int:=cat (ZsP live node) 0 (Zy b)
theorem ZAn (live:List Bool) (node:Int) (k:Nat) (x:Zx):(ZsP live node k x).length<=1:=by
  unfold ZsP;split
  · split<;>simp
  · simp
theorem Zvz {b:Za} (h:YT b) (live:List Bool) (node:Int) (n:Nat):(cat (ZsP live node) 0 ((Zy b).take n)).length<=6000:=by
  have h1:=ZaE (f:=ZsP live node) (c:=1) (l:=(Zy b).take n) (m:=0) (λk x _=>ZAn live node k x);have h2:=Vq h;rw[Ui] at h1;omega
theorem Zuf {b:Za} (h:YT b) {v:ZO} (hv:VOk b v) {live:List Bool} (hl:live.length=(Zy b).length) (node:Int):Zfh (v,live,()) node=some (Zvy b live node):=by
  have h6:=Vq h;have el:ZO.links (GP ((v,live,()):Ym))=Zy b:=hv.links;have ev:Ym.live ((v,live,()):Ym)=live:=rfl;unfold Zfh XT;have:=Xr (l:=Zy b) (ρ:=List Int) (ZsP live node) [] (step:=λu=>YP (v,live,()) (node,()) u.1 u.2.1) (good:=Zvy b live node)
    (λk x hx hk=>by
      have hlv:live[k]?=some (live[k]'(by omega)):=Ua _;have hlen:=Zvz h live node k;simp only[YP,el,ev,show (k:Int)<((Zy b).length:Int) from by omega,Uj,Zm,hx,hlv,Bq,Zfi,Us,Y4 (show k<=1048576 by omega)];unfold ZsP at *;rw[hlv];simp only[UJ];by_cases q1:live[k]'(by omega)=true
      · rw[Uc q1,Uc q1]
        by_cases q2:GA x=node
        · rw[Uc (UX q2),Uc q2,Zg (by simp only[Uz,Ux];omega)]
        · rw[Ud (by rw[Uk];exact q2),Ud q2,Uo]
      · rw[Ud q1,Ud q1,Uo])
    (by simp only[YP,el,Uf,Uh,Us];rfl)
  rw[this];rfl
theorem ZyZ {n:Nat} {p:Nat->Int} (hn:n<=1000):Zaq (ZnL n p) 0=some (match (List.range n).find? (λv=>decide (p v=0)) with
    | none=>-1
    | some v=>(v:Int)):=by
  unfold Zaq;cases e:(List.range n).find? (λv=>decide (p v=0)) with
  | none =>
    rw[List.find?_range_eq_none] at e;refine Yy n (λk v=>v=((k:Int),())) _ rfl ?_ ?_
    · rintro k _ hk rfl
      have hz:=e k hk;rw[UP,Kj] at hz;simp only[XV,ZgB,show (k:Int)<(n:Int) from by omega,Uj,Zm,ZgA hk,Bq,Y4 (show k<=1048576 by omega)];rw[Ud (λz=>hz z.symm)];exact .inl ⟨_,rfl,rfl⟩
    · rintro _ rfl
      simp only[XV,ZgB,Uf,Uh]
  | some v =>
    rw[List.find?_range_eq_some] at e;obtain ⟨hp,hv,hlow⟩:=e;have hv:=Kz.1 hv;rw[Uk] at hp;refine Yy v (λk u=>u=((k:Int),())) _ rfl ?_ ?_
    · rintro k _ hk rfl
      have hz:=hlow k hk;rw[UP,Kj] at hz;simp only[XV,ZgB,show (k:Int)<(n:Int) from by omega,Uj,Zm,ZgA (show k<n by omega),Bq,Y4 (show k<=1048576 by omega)];rw[Ud (λz=>hz z.symm)];exact .inl ⟨_,rfl,rfl⟩
    · rintro _ rfl
      simp only[XV,ZgB,show (v:Int)<(n:Int) from by omega,Uj,Zm,ZgA hv,Bq];rw[Uc hp.symm]
def ZxB (live:List Bool) (k:Nat) (x:Zx):List Int:=if (live[k]?).getD false=true then [(k:Int)] else []
theorem ZxC (live:List Bool) (k:Nat) (x:Zx):(ZxB live k x).length<=1:=by
  unfold ZxB;split<;>simp
theorem Zt3 {b:Za} (h:YT b) {v:ZO} (hv:VOk b v) {live:List Bool} (hl:live.length=(Zy b).length):Xb (v,live,()) ()=some (cat (ZxB live) 0 (Zy b)):=by
  have h6:=Vq h;have el:ZO.links (GP ((v,live,()):Ym))=Zy b:=hv.links;have ev:Ym.live ((v,live,()):Ym)=live:=rfl;unfold Xb;exact Xr (l:=Zy b) (ρ:=List Int) (ZxB live) [] (step:=λu=>YM (v,live,()) u.1 u.2.1) (good:=cat (ZxB live) 0 (Zy b))
    (λk x hx hk=>by
      have hlv:live[k]?=some (live[k]'(by omega)):=Ua _;have hlen:=ZaE (f:=ZxB live) (c:=1) (l:=(Zy b).take k) (m:=0) (λk x _=>ZxC live k x);rw[Ui] at hlen;simp only[YM,el,ev,show (k:Int)<((Zy b).length:Int) from by omega,Uj,Zm,hx,hlv,Bq,Zel,Us,Y4 (show k<=1048576 by omega)];unfold ZxB at *;rw[hlv];simp only[UJ];by_cases q1:live[k]'(by omega)=true
      · rw[Uc q1,Uc q1,Zg (by simp only[Uz,Ux];omega)]
      · rw[Ud q1,Ud q1,Uo])
    (by simp only[YM,el,Uf,Uh,Us])
def Zzw (L:List Zx) (c:Int) (y:Int) (l:List Int):List Int:=match L[y.toNat]? with
  | some x=>List.set l (Gw x).toNat ((l[(Gw x).toNat]?).getD 0+c)
  | none=>l
theorem Zul {L:List Zx} {c:Int} {k:Nat} {x:Zx} (hx:L[k]?=some x) (l:List Int):Zzw L c (k:Int) l=List.set l (Gw x).toNat ((l[(Gw x).toNat]?).getD 0+c):=by
  unfold Zzw;rw[Up,hx]
theorem Ztz {live:List Bool} {L:List Zx} {n:Nat} (h:Zzt live L n):∀ k,k<=L.length->foldI (λk x l=>foldI (λ_ y l=>Zzw L 1 y l) 0 (ZxB live k x) l) 0 (L.take k) (List.replicate n 0)=ZnL n λv=>(Zmq live (L.take k) [] (v:Int):Int)
  | 0,_=>by
    rw[Ku];apply UD;intro j;by_cases hj:j<n
    · rw[ZgA hj]
      simp only[foldI];rw[Kc,Uc hj];rfl
    · rw[UC (by simp only[foldI];rw[UW];omega),UC (by rw[ZgB];omega)]
  | k+1,hk=>by
    have hll:=h.ll;have hx:L[k]?=some (L[k]'(by omega)):=Ua _;have hlv:live[k]?=some (live[k]'(by omega)):=Ua _;generalize L[k]'(by omega)=x at hx;generalize live[k]'(by omega)=lv at hlv;obtain ⟨_,t0,t1⟩:=h.bd x (Ue hx);rw[Zid hx,Ztz h k (by omega)];unfold ZxB;rw[hlv,UJ];by_cases q:lv=true
    · rw[Uc q]
      show Zzw L 1 (k:Int) _=_;rw[Zul hx,ZgA (by omega),UJ];refine Zux (by omega) ?_ (λj hj=>?_)
      · rw[ZdM hx]
        unfold cw;rw[hlv,UJ,Uc q,Uc (by omega),Ud (by simp)];omega
      · rw[ZdM hx]
        unfold cw;rw[hlv,UJ,Uc q,Ud (by omega),Kd]
    · rw[Ud q]
      show ZnL n _=ZnL n _;unfold ZnL;refine KK λv _=>?_;rw[ZdM hx];unfold cw;rw[hlv,UJ,Ud q,Kd]
theorem ZyQ {b:Za} (h:YT b) {v:ZO} (hv:VOk b v) {live:List Bool} {n:Nat} (hB:Zzt live (Zy b) n) {R:List Int×Bool}
    (hR:Zq (λu=>Y9 (v,live,()) (ZnL n λu=>(Zmq live (Zy b) [] (u:Int):Int)) u.1 u.2.1 u.2.2.1) (([]:List Int),(0:Int),ZnL n (λu=>(Zmq live (Zy b) [] (u:Int):Int)),())=some (.inr R)) :
    Zq (λu=>Qs (v,live,()) (cat (ZxB live) 0 (Zy b)) u.1 u.2.1) ((0:Int),List.replicate n (0:Int),())=some R:=by
  have h6:=hB.few;have el:ZO.links (GP ((v,live,()):Ym))=Zy b:=hv.links;have hC:=ZaE (f:=ZxB live) (c:=1) (l:=Zy b) (m:=0) (λk x _=>ZxC live k x);refine ZeM (l:=cat (ZxB live) 0 (Zy b)) (by unfold Len;omega) (λs i=>(i,s,())) (f:=λ_ y s=>Zzw (Zy b) 1 y s) (s0:=List.replicate n (0:Int)) (λk s=>s.length=n/\∀ z∈s,0<=z/\z<=(k:Int)) ⟨UW,λz hz=>by have:=List.eq_of_mem_replicate hz;omega⟩ (λm y s hy hI _=>?_) (λs hI he=>?_)
  · obtain ⟨hsl,hsb⟩:=hI
    have hm:=(Ub.1 hy).1;obtain ⟨k,x,hx,hyx⟩:=X8.1 (Ue hy);rw[Uw] at hyx;have ey:y=(k:Int):=by
      unfold ZxB at hyx;split at hyx
      · exact Uu.1 hyx
      · cases hyx
    subst ey;obtain ⟨_,t0,t1⟩:=hB.bd x (Ue hx);have hz:s[(Gw x).toNat]?=some (s[(Gw x).toNat]'(by omega)):=Ua _;have hzb:=hsb _ (Ue hz);generalize s[(Gw x).toNat]'(by omega)=z at hz hzb;have ei:Zzw (Zy b) 1 (k:Int) s=List.set s (Gw x).toNat (z+1):=by rw[Zul hx,hz];rfl
    refine ⟨?_,?_⟩
    · show Qs (v,live,()) _ (m:Int) s=_
      unfold Qs;rw[Uc (by omega),Zm,hy,Bq,el,Zm,hx,Bq,YD t0 hz,Bq,YZ (n:=z+1) (by omega) (by omega),ei]
    · rw[ei]
      refine ⟨by rw[Uy];exact hsl,λw hw=>?_⟩;rcases U4 hw with q | q
      · have:=hsb w q;omega
      · omega
  · rw[Zn1 (λy s=>Zzw (Zy b) 1 y s)] at he
    have hcf:=Ztz hB (Zy b).length (UK _);rw[Um] at hcf;rw[hcf] at he;subst he;show Qs (v,live,()) _ ((cat (ZxB live) 0 (Zy b)).length:Int) _=_;unfold Qs;rw[Ud (Uf _)];exact hR
def dw (live:List Bool) (w v:Int) (k:Nat) (x:Zx):Nat:=if (live[k]?).getD false=true then (if Gw x=v then (if GA x=w then 1 else 0) else 0) else 0
def ZD1 (live:List Bool) (L:List Zx) (w v:Int):Nat:=foldI (λk x s=>s+dw live w v k x) 0 L 0
theorem ZnT {live:List Bool} {L:List Zx} {w v:Int} {k:Nat} {x:Zx} (hx:L[k]?=some x):ZD1 live (L.take (k+1)) w v=ZD1 live (L.take k) w v+dw live w v k x:=by
  unfold ZD1;rw[Zid hx]
theorem ZCc (live:List Bool) {out:List Int} {w:Int} (hw:w ∉ out) (v:Int) (k:Nat) (x:Zx):cw live out v k x=cw live (out++[w]) v k x+dw live w v k x:=by
  unfold cw dw;split
  · split
    · by_cases q:GA x∈out
      · rw[Uc q,Uc (UB.2 (.inl q)),Ud (λe=>hw (by rw[<-e];exact q))]
      · rw[Ud q]
        by_cases e:GA x=w
        · rw[Uc (UB.2 (.inr (Uu.2 e))),Uc e]
        · rw[Ud (λz=>by rcases UB.1 z with z | z;exact q z;exact e (Uu.1 z)),Ud e]
    · rfl
  · rfl
theorem ZoS (live:List Bool) (L:List Zx) {out:List Int} {w:Int} (hw:w ∉ out) (v:Int):∀ k,k<=L.length->Zmq live (L.take k) out v=Zmq live (L.take k) (out++[w]) v+ZD1 live (L.take k) w v
  | 0,_=>rfl
  | k+1,hk=>by
    have hx:L[k]?=some (L[k]'(by omega)):=Ua _;rw[ZdM hx,ZdM hx,ZnT hx,ZoS live L hw v k (by omega),ZCc live hw v k];omega
theorem ZGf (live:List Bool) (L:List Zx) (out:List Int) (v:Int):∀ (m k:Nat) (x:Zx),m<=L.length->k<m->L[k]?=some x->cw live out v k x<=Zmq live (L.take m) out v
  | 0,k,x,_,hk,_=>by omega
  | m+1,k,x,hm,hk,hx=>by
    have hy:L[m]?=some (L[m]'(by omega)):=Ua _;rw[ZdM hy];by_cases e:k=m
    · subst e
      rw[hx] at hy;injection hy with hy
      rw[<-hy];omega
    · have:=ZGf live L out v m k x (by omega) (by omega) hx
      omega
noncomputable def opn (live:List Bool) (L:List Zx) (out:List Int) (u:Nat):Int:=if (u:Int)∈out then -1 else (Zmq live L out (u:Int):Int)
def Clo (live:List Bool) (L:List Zx) (out:List Int):Prop:=∀ u∈out,Zmq live L out u=0
theorem ZxI {live:List Bool} {L:List Zx} {n:Nat} (h:Zzt live L n) {out:List Int} {w:Nat} (hw:w<n) (hn:(w:Int) ∉ out) (hc:Zmq live L out (w:Int)=0) (hcl:Clo live L out):∀ k,k<=L.length->
    foldI (λk x l=>foldI (λ_ y l=>Zzw L (-1) y l) 0 (ZsP live (w:Int) k x) l) 0 (L.take k) (List.set (ZnL n (opn live L out)) w (-1))=ZnL n λu=>if (u:Int)∈out++[(w:Int)] then -1 else (Zmq live L out (u:Int):Int)-(ZD1 live (L.take k) (w:Int) (u:Int):Int)
  | 0,_=>by
    rw[Ku];simp only[foldI];refine Zux hw ?_ (λj hj=>?_)
    · rw[Uc (UB.2 (.inr (Uu.2 rfl)))]
    · unfold opn
      by_cases q:(j:Int)∈out
      · rw[Uc q,Uc (UB.2 (.inl q))]
      · rw[Ud q,Ud (λz=>by
          rcases UB.1 z with z | z
          · exact q z
          · have:=Uu.1 z;omega)]
        show _-((0:Nat):Int)=_;omega
  | k+1,hk=>by
    have hll:=h.ll;have hx:L[k]?=some (L[k]'(by omega)):=Ua _;have hlv:live[k]?=some (live[k]'(by omega)):=Ua _;generalize L[k]'(by omega)=x at hx;generalize live[k]'(by omega)=lv at hlv;obtain ⟨_,t0,t1⟩:=h.bd x (Ue hx);rw[Zid hx,ZxI h hw hn hc hcl k (by omega)];have hle:=ZGf live L out (Gw x) L.length k x (UK _) (by omega) hx;rw[Um] at hle;have hsame:(∀ u:Int,dw live (w:Int) u k x=0)->ZnL n (λu=>if (u:Int)∈out++[(w:Int)] then -1 else (Zmq live L out (u:Int):Int)-(ZD1 live (L.take k) (w:Int) (u:Int):Int))=ZnL n λu=>if (u:Int)∈out++[(w:Int)] then -1 else (Zmq live L out (u:Int):Int)-(ZD1 live (L.take (k+1)) (w:Int) (u:Int):Int):=λhz=>by
      unfold ZnL;refine KK λu _=>?_;rw[ZnT hx,hz,Kd]
    unfold ZsP;rw[hlv,UJ];by_cases q:lv=true
    · rw[Uc q]
      by_cases qf:GA x=(w:Int)
      · rw[Uc qf]
        have hcw:cw live out (Gw x) k x=1:=by
          unfold cw;rw[hlv,UJ,Uc q,Uc rfl,Ud (by rw[qf];exact hn)]
        have hto:Gw x ∉ out++[(w:Int)]:=λz=>by
          rcases UB.1 z with z | z
          · have:=hcl _ z;omega
          · rw[Uu.1 z,hc] at hle
            rw[Uu.1 z] at hcw;omega
        show Zzw L (-1) (k:Int) _=_;rw[Zul hx,ZgA (by omega),UJ,show (((Gw x).toNat:Nat):Int)=Gw x by omega,Ud hto];refine Zux (by omega) ?_ (λj hj=>?_)
        · rw[show (((Gw x).toNat:Nat):Int)=Gw x by omega,Ud hto,ZnT hx]
          unfold dw;rw[hlv,UJ,Uc q,Uc rfl,Uc qf];omega
        · have hd:dw live (w:Int) (j:Int) k x=0:=by
            unfold dw;rw[hlv,UJ,Uc q,Ud (by omega)]
          rw[ZnT hx,hd,Kd]
      · rw[Ud qf]
        exact hsame λu=>by unfold dw;rw[hlv,UJ,Uc q,Ud qf];split<;>rfl
    · rw[Ud q]
      exact hsame λu=>by unfold dw;rw[hlv,UJ,Ud q]
theorem Zz0 (live:List Bool) (L:List Zx) (out:List Int) (v:Int):∀ k,k<=L.length->Zmq live (L.take k) out v<=k
  | 0,_=>UK _
  | k+1,hk=>by
    have hx:L[k]?=some (L[k]'(by omega)):=Ua _;rw[ZdM hx];have:=Zz0 live L out v k (by omega);have h1:cw live out v k (L[k]'(by omega))<=1:=by
      unfold cw;split
      · split
        · split<;>omega
        · omega
      · omega
    omega
theorem ZGx {live:List Bool} {L:List Zx} {n:Nat} (h:Zzt live L n) (out:List Int) (u:Nat):-1<=opn live L out u/\opn live L out u<=6000:=by
  have h1:=Zz0 live L out (u:Int) L.length (UK _);have h2:=h.few;rw[Um] at h1;unfold opn;split<;>omega
theorem ZB4 {live:List Bool} {L:List Zx} {out:List Int} {w:Int} (hn:w ∉ out) (hc:Zmq live L out w=0) (hcl:Clo live L out):Clo live L (out++[w]):=by
  intro u hu;have hs:=ZoS live L hn u L.length (UK _);rw[Um] at hs;rcases UB.1 hu with q | q
  · have:=hcl u q
    omega
  · rw[Uu.1 q] at hs ⊢
    omega
theorem ZAo {b:Za} {live:List Bool} {w y:Int} (hy:y∈Zvy b live w):∃ (k:Nat) (x:Zx),y=(k:Int)/\(Zy b)[k]?=some x/\GA x=w:=by
  obtain ⟨k,x,hx,hyx⟩:=X8.1 hy;rw[Uw] at hyx;unfold ZsP at hyx;split at hyx
  · split at hyx
    · rename_i q
      exact ⟨k,x,Uu.1 hyx,hx,q⟩
    · cases hyx
  · cases hyx
theorem ZCe {b:Za} (h:YT b) {v:ZO} (hv:VOk b v) {live:List Bool} {n:Nat} (hB:Zzt live (Zy b) n) {out:List Int} {w:Nat} (hw:w<n) (hn:(w:Int) ∉ out) (hc:Zmq live (Zy b) out (w:Int)=0) (hcl:Clo live (Zy b) out) (i:Int) :
    Zq (λu=>Qr (v,live,()) out i (w:Int) (Zvy b live (w:Int)) u.1 u.2.1) ((0:Int),List.set (ZnL n (opn live (Zy b) out)) w (-1:Int),()) =
      some (.inl (out++[(w:Int)],Wq (i+1),ZnL n (opn live (Zy b) (out++[(w:Int)])),())):=by
  have h6:=hB.few;have el:ZO.links (GP ((v,live,()):Ym))=Zy b:=hv.links;have hlen:(Zvy b live (w:Int)).length<=6000:=by
    have:=Zvz h live (w:Int) (Zy b).length;rw[Um] at this;exact this
  refine ZeM (l:=Zvy b live (w:Int)) (by unfold Len;omega) (λs i=>(i,s,())) (f:=λ_ y s=>Zzw (Zy b) (-1) y s) (s0:=List.set (ZnL n (opn live (Zy b) out)) w (-1:Int)) (λk s=>s.length=n/\∀ z∈s,-1-(k:Int)<=z/\z<=6000) ⟨by rw[Uy,ZgB],λz hz=>?_⟩ (λm y s hy hI _=>?_) (λs hI he=>?_)
  · rcases U4 hz with q | q
    · unfold ZnL at q
      obtain ⟨u,_,rfl⟩:=Kq.1 q;have:=ZGx hB out u;omega
    · omega
  · obtain ⟨hsl,hsb⟩:=hI
    have hm:=(Ub.1 hy).1;obtain ⟨k,x,rfl,hx,_⟩:=ZAo (Ue hy);obtain ⟨_,t0,t1⟩:=hB.bd x (Ue hx);have hz:s[(Gw x).toNat]?=some (s[(Gw x).toNat]'(by omega)):=Ua _;have hzb:=hsb _ (Ue hz);generalize s[(Gw x).toNat]'(by omega)=z at hz hzb;have ei:Zzw (Zy b) (-1) (k:Int) s=List.set s (Gw x).toNat (z-1):=by rw[Zul hx,hz];rfl
    refine ⟨?_,?_⟩
    · show Qr (v,live,()) out i (w:Int) _ (m:Int) s=_
      unfold Qr;rw[Uc (by omega),Zm,hy,Bq,el,Zm,hx,Bq,YD t0 hz,Bq,YZ (n:=z-1) (by omega) (by omega),ei]
    · rw[ei]
      refine ⟨by rw[Uy];exact hsl,λz' hz'=>?_⟩;rcases U4 hz' with q | q
      · have:=hsb z' q;omega
      · omega
  · have hd:=ZxI hB hw hn hc hcl (Zy b).length (UK _)
    unfold Zvy at he;rw[Zn1 (λy s=>Zzw (Zy b) (-1) y s)] at he;rw[Um] at hd;rw[hd] at he;subst he;show Qr (v,live,()) out i (w:Int) _ ((Zvy b live (w:Int)).length:Int) _=_;unfold Qr;rw[Ud (Uf _)];congr 6;unfold ZnL;refine KK λu _=>?_;have hs:=ZoS live (Zy b) hn (u:Int) (Zy b).length (UK _);rw[Um] at hs;unfold opn;split
    · rfl
    · omega
theorem ZGu (live:List Bool) (L:List Zx) (n:Nat) (out:List Int):(List.range n).find? (λv=>decide (opn live L out v=0))=nxt live L n out:=by
  unfold nxt;congr 1;funext v;unfold opn;by_cases q:(v:Int)∈out
  · rw[Uc q,decide_eq_false (by omega),decide_eq_false (λz=>z q),KW]
  · rw[Ud q,UX q,Bool.true_and,Km]
    omega
theorem ZrA {b:Za} (h:YT b) {v:ZO} (hv:VOk b v) {live:List Bool} {n:Nat} (hB:Zzt live (Zy b) n) {l0:List Int} (hl0:l0.length=n):∀ (m:Nat) (out:List Int),out.length+m=n->Clo live (Zy b) out->
    Zq (λu=>Y9 (v,live,()) l0 u.1 u.2.1 u.2.2.1) (out,(out.length:Int),ZnL n (opn live (Zy b) out),())=some (.inr (Zzy live (Zy b) n m out))
  | 0,out,hm,hcl=>by
    refine Xn ?_;show Y9 (v,live,()) l0 out (out.length:Int) _=_;unfold Y9;rw[Ud (by omega)];rfl
  | m+1,out,hm,hcl=>by
    have hn:=hB.n0;have hi:=ZyZ (p:=opn live (Zy b) out) hB.n0;rw[ZGu] at hi;unfold Zzy;cases e:nxt live (Zy b) n out with
    | none =>
      rw[e] at hi;refine Xn ?_;show Y9 (v,live,()) l0 out (out.length:Int) _=_;unfold Y9;rw[Uc (by omega),hi];rfl
    | some w =>
      rw[e] at hi;have e':=e;unfold nxt at e';rw[List.find?_range_eq_some] at e';obtain ⟨hp,hw,_⟩:=e';have hw:=Kz.1 hw;rw[Ur,Uk,Uk] at hp;have hstep:Y9 (v,live,()) l0 out (out.length:Int) (ZnL n (opn live (Zy b) out))=some (.inl (out++[(w:Int)],((out++[(w:Int)]).length:Int),ZnL n (opn live (Zy b) (out++[(w:Int)])),())):=by
        unfold Y9;rw[Uc (by omega),hi,Bq];show (if (w:Int)<0 then _ else _)=_;rw[Ud (by omega),Zm,ZgA hw,Bq,Zg (by simp only[Uz,Ux];omega),Zuf h hv hB.ll,Bq,Up,ZCe h hv hB hw hp.1 hp.2 hcl,Y4 (by omega)];rw[Ug];rfl
      exact (Xq hstep).trans (ZrA h hv hB hl0 m (out++[(w:Int)]) (by rw[Ug];simp only[Uz,Ux];omega) (ZB4 hp.1 hp.2 hcl))
theorem Zuj {b:Za} (h:YT b) {v:ZO} (hv:VOk b v) {live:List Bool} {n:Nat} (hB:Zzt live (Zy b) n) (hn:Y6 v=some (n:Int)):J8 (v,live,())=some (Zzy live (Zy b) n n []):=by
  have h1:=hB.n0;unfold J8;show (Y6 v).bind _=_;rw[hn,Bq,Zg (by omega),Zg (by omega),Zg (by omega),Zg (by omega),Zt3 h hv hB.ll,Bq,Up];refine ZyQ h hv hB ?_;have:=ZrA h hv hB (l0:=ZnL n λu=>(Zmq live (Zy b) [] (u:Int):Int)) (ZgB _ _) n [] (by simp) (λu hu=>by cases hu);have e:ZnL n (opn live (Zy b) [])=ZnL n λu=>(Zmq live (Zy b) [] (u:Int):Int):=by
    unfold ZnL;refine KK λu _=>?_;unfold opn;rw[Ud (by simp)]
  rw[e] at this;exact this
abbrev Ja (b:Za):Nat:=2*(places (KZ b)).length
abbrev Zb7 (b:Za) (br:List Int):List Bool:=ZgS (Zy b).length br
def Zj6 (b:Za) (br:List Int):List Int×Bool:=Zzy (Zb7 b br) (Zy b) (Ja b) (Ja b) []
theorem nN (b:Za):Ja b=2*(places (KZ b)).length:=rfl
theorem Zjr {b:Za} (h:YT b):Ja b<=156:=by
  have:=Z0 h.ok.1.few;have:=nN b;omega
theorem ZMs {b:Za} (h:YT b) (br:List Int):Zzt (Zb7 b br) (Zy b) (Ja b) where
  few:=Vq h
  ll:=Zie _ _
  n0:=by have:=Zjr h;omega
  bd:=λx hx=>by
    have:=Zhk h hx;have:=nN b;omega
theorem ZuD {b:Za} (h:YT b) {v:ZO} (hv:VOk b v):Y6 v=some (Ja b:Int):=by
  have:=Zjr h;have e:=nN b;unfold Y6;rw[show Xm (ZO.places v)=some ((ZO.places v).length:Int) from rfl,Bq,hv.places,YZ (by omega) (by omega)];congr 1
theorem ZwT {b:Za} (h:YT b) {v:ZO} (hv:VOk b v) {br:List Int} (hbr:br.length<=1048576):Zaj v br=some (tr (Zm8 ((Zy b).length:Int) br)):=by
  have hLs:=Vq h;unfold Zaj;rw[show ZcF (ZO.links v)=some ((ZO.links v).length:Int) from rfl,Bq,hv.links,YZ (by omega) (by omega)];exact Zrz br _ hbr
theorem ZtH {b:Za} (h:YT b) {br:List Int} (hbr:br.length<=1048576):ZgY b br=some (sel (Zm8 ((Zy b).length:Int) br) 0 2):=by
  have hLs:=Vq h;unfold ZgY;rw[JL b h.sm,Bq,Uc (ZU h.ok),Zhd h,Bq,Zka br _ hbr (by omega),Bq];by_cases q:Zm8 ((Zy b).length:Int) br
  · rw[Uc (ZU q),QF q]
  · rw[Ud (λz=>q ((YS _).1 z)),Qc q]
theorem Zja {b:Za} (h:YT b):QB b=some (Ja b:Int):=by
  rw[Zhc h.ok.1.few];congr 1
theorem ZBx {b:Za} (h:YT b) {br:List Int} (hbr:br.length<=1048576) (hR:Zm8 ((Zy b).length:Int) br):VN b br=some (if (Zj6 b br).2=true then ((Zj6 b br).1,0) else ([],7)):=by
  have hLs:=Vq h;unfold VN;rw[ZtH h hbr,Bq,QF hR,Uc rfl,Zhd h,Bq,Zja h,Bq,Zl5 _ _ hLs hbr,Bq,ZuU (ZMs h br),Bq];show (if (Zj6 b br).2=true then _ else _)=_;split<;>rfl
theorem ZCS {b:Za} (h:YT b) {v:ZO} (hv:VOk b v) (br:List Int):J8 (v,Zb7 b br,())=some (Zj6 b br) :=
  Zuj h hv (ZMs h br) (ZuD h hv)
theorem ZyY {b:Za} (h:YT b) {v:ZO} (hv:VOk b v) {br:List Int} (hbr:br.length<=1048576) (hR:Zm8 ((Zy b).length:Int) br):Jw v br=some (v,Zb7 b br,()):=by
  have hLs:=Vq h;have:=ZyX v br (by rw[hv.links];exact hLs) (by rw[hv.links];exact hR.1) hbr;rw[hv.links] at this;exact this
theorem ZPN {b:Za} {t:Zh} (ht:Zlw (2*((places (KZ b)).length:Int)) t):ZpW (Ja b) t:=by
  obtain ⟨h1,h2,h3,h4⟩:=ht;have e0:=nN b;refine ⟨by omega,by omega,by omega,λs hs=>?_⟩;obtain ⟨k,hk⟩:=UE.1 hs;have hl:=(Ub.1 hk).1;obtain ⟨a,s',_,e,_,e2,_⟩:=h4 k _ (Ua (show k<(K9 t).length by omega));rw[hk] at e;injection e with e
  subst e;obtain ⟨z1,z2,z3⟩:=e2;exact ⟨⟨by omega,by omega⟩,by omega,by omega⟩
theorem ZBo {n:Int} {l:List Zk} (h:ZfL l (Zcf n l)) {i:Nat} {x:Zk} (hx:l[i]?=some x):∀ (m:Nat) (y:Zk),l[i+m+1]?=some y->Gl x<Gl y
  | 0,y,hy=>(h (i+1) y hy).2.1 x (by omega) hx
  | m+1,y,hy=>by
    have hl:=(Ub.1 hy).1;have hz:l[i+m+1]?=some (l[i+m+1]'(by omega)):=Ua _;have h1:=ZBo h hx m _ hz;have h2:=(h (i+m+1+1) y hy).2.1 _ (by omega) hz;omega
theorem ZGw {n:Int} {l:List Zk} (h:ZfL l (Zcf n l)):ZxA l:=by
  intro i j x y hx hy he;rcases Nat.lt_trichotomy i j with q | q | q
  · have:=ZBo h hx (j-i-1) y (by rw[show i+(j-i-1)+1=j by omega];exact hy)
    omega
  · exact q
  · have:=ZBo h hy (i-j-1) x (by rw[show j+(i-j-1)+1=i by omega];exact hx)
    omega
structure ZsH (b:Za) (c:ZA) (br:List Int) (l:List Zk):Prop where
  blk:YT b
  cor:ZaH c
  ris:Zm8 ((Zy b).length:Int) br
  src:ZfL l (Zcf (2*((places (KZ b)).length:Int)) l)
  ord:(Zj6 b br).2=true
structure Pre (b:Za) (c:ZA) (br:List Int) (l:List Zk):Prop where
  blk:YT b
  cor:ZaH c
  ris:Zm8 ((Zy b).length:Int) br
  src:ZfL l (Zcf (2*((places (KZ b)).length:Int)) l)
theorem ZsH.pre {b:Za} {c:ZA} {br:List Int} {l:List Zk} (h:ZsH b c br l):Pre b c br l:=⟨h.blk,h.cor,h.ris,h.src⟩
theorem ZFE (b:Za) (c:ZA) (br:List Int) (l:List Zk) (t:Zh) (hb:sm ZT b) (hc:sm XW c) (hbr:br.length<=1048576) (hl:l.length<=1048576) :
    (∃ code:Int,code≠0/\ZbW b c br l (some t)=some (none,[],code)/\Zg0 b c br l t=some code/\(code=7/\Pre b c br l/\Zlw (2*((places (KZ b)).length:Int)) t/\(Zj6 b br).2≠true\/¬(Pre b c br l/\Zlw (2*((places (KZ b)).length:Int)) t)))\/
    (∃ v,ZsH b c br l/\Zlw (2*((places (KZ b)).length:Int)) t/\VOk b v/\ZbW b c br l (some t)=some (some (v,Zb7 b br,()),(Zj6 b br).1,0)/\Zg0 b c br l t=some 0):=by
  unfold ZbW Zg0;rw[JL b hb,ZlH b hb,Bq,Bq];by_cases hB:Zm6 b;rotate_left
  · rw[Ud (λq=>hB ((YS _).1 q)),Ud (λq=>hB ((YS _).1 q))]
    exact .inl ⟨1,by decide,rfl,rfl,.inr λq=>hB q.1.blk.ok⟩
  have h:YT b:=⟨hB,hb⟩;rw[Uc (ZU hB),Uc (ZU hB),Zlk c hc,Zqk c,Bq,Bq];by_cases hC:ZaH c;rotate_left
  · rw[Ud (λq=>hC ((YS _).1 q)),Ud (λq=>hC ((YS _).1 q))]
    exact .inl ⟨1,by decide,rfl,rfl,.inr λq=>hC q.1.cor⟩
  obtain ⟨v,hv1,hv⟩:=ZFA h;have hn:=Zjr h;have e0:=nN b;rw[Uc (ZU hC),Uc (ZU hC),hv1,Bq,Ud (by simp),Bq,Zlb h v hv.places t,Zja h,Bq,Bq,Zkb (by omega) (by omega) t,Bq,show ((Ja b:Nat):Int)=2*((places (KZ b)).length:Int) by omega];by_cases hT:Zlw (2*((places (KZ b)).length:Int)) t;rotate_left
  · rw[Ud (λq=>hT ((YS _).1 q)),Ud (λq=>hT ((YS _).1 q))]
    exact .inl ⟨1,by decide,rfl,rfl,.inr λq=>hT q.2⟩
  rw[Uc (ZU hT),Uc (ZU hT)];unfold Zl6;rw[JL b hb,Bq,Uc (ZU hB),Zlk c hc,Bq,Uc (ZU hC),ZtH h hbr,ZwT h hv hbr,Bq,Bq];by_cases hR:Zm8 ((Zy b).length:Int) br;rotate_left
  · rw[Ud (λq=>hR ((YS _).1 q)),Qc hR,Ud (by decide)]
    exact .inl ⟨2,by decide,rfl,rfl,.inr λq=>hR q.1.ris⟩
  rw[Uc (ZU hR),QF hR,Uc rfl,Zi7 h v hv.places l hl,Zjy h l hl,Bq,Bq];by_cases hS:ZfL l (Zcf (2*((places (KZ b)).length:Int)) l);rotate_left
  · rw[Ud (λq=>hS ((YS _).1 q)),Ud (λq=>hS ((YS _).1 q))]
    exact .inl ⟨2,by decide,rfl,rfl,.inr λq=>hS q.1.src⟩
  rw[Uc (ZU hS),Uc (ZU hS),ZyY h hv hbr hR,Bq,ZCS h hv br,ZBx h hbr hR,Bq,Bq];by_cases hO:(Zj6 b br).2=true;rotate_left
  · rw[Ud hO,Ud hO]
    exact .inl ⟨7,by decide,rfl,rfl,.inl ⟨rfl,⟨h,hC,hR,hS⟩,hT,hO⟩⟩
  rw[Uc hO,Uc hO];exact .inr ⟨v,⟨h,hC,hR,hS,hO⟩,hT,hv,rfl,rfl⟩
def eqS (a b:Zv):Bool:=decide (Gd a=Gd b)&&decide (Gf a=Gf b)
theorem ZxR (a b:Zv):eqS a b=eqS b a:=by
  unfold eqS;congr 1<;>exact Km.2 ⟨Eq.symm,Eq.symm⟩
def ZD0 (x:Bool) (a s:Zv) (r:Bool×Zk):Bool:=if (x == r.1)=true then (if eqS a (GK r.2)=true then !(eqS s (GR r.2)) else true) else true
def Zwu (t:Zh) (k:Nat) (r:Bool×Zk):Zh:=(List.set (K9 t) k r.1,List.set (Gp t) k (GK r.2),List.set (Gm t) k (GR r.2),())
theorem ZGE {t:Zh} {k:Nat} {x:Bool} {a s:Zv} (hx:atI (K9 t) (k:Int)=some x) (ha:atI (Gp t) (k:Int)=some a) (hs:atI (Gm t) (k:Int)=some s) (node:Int) (st:NSt) :
    Zgf t (k:Int) (Zyx node st).1 (Zyx node st).2=some (ZD0 x a s (Zyx node st),Zwu t k (Zyx node st)):=by
  unfold Zgf ZD0 Zwu;cases st with
  | none =>
    show (if false=true then _ else (atI (K9 t) (k:Int)).bind _)=_;rw[Ud (by decide),hx,Bq,ha,Bq,hs,Bq,Bq,Up];show (if (x == false)=true then (if eqS a ZqX=true then _ else _) else _)=some (if (x == false)=true then (if eqS a ZqX=true then _ else _) else _,_);split
    · split
      · rfl
      · rfl
    · rfl
  | some q =>
    show (if true=true then (atI (K9 t) (k:Int)).bind _ else _)=_;rw[Uc rfl,hx,Bq,ha,Bq,hs,Bq,Bq,Up];show (if (x == true)=true then (if eqS a q.1=true then _ else _) else _)=some (if (x == true)=true then (if eqS a q.1=true then _ else _) else _,_);split
    · split
      · rfl
      · rfl
    · rfl
theorem ZGy {t:Zh} {n:Nat} (ht:ZpW n t) (hn:n<=1048576):Zk0 t=some t:=by
  have h1:=ht.lr;have h2:=ht.la;have h3:=ht.ls;unfold Zk0;rw[Zg (by simp only[Ux];omega),Zg (by simp only[Ux];omega),Zg (by simp only[Ux];omega),Us,Us,Us]
theorem ZBv {t:Zh} {n k:Nat} (ht:ZpW n t) (hk:k<n):∃ x a s,atI (K9 t) (k:Int)=some x/\atI (Gp t) (k:Int)=some a/\atI (Gm t) (k:Int)=some s:=by
  have h1:=ht.lr;have h2:=ht.la;have h3:=ht.ls;exact ⟨_,_,_,by rw[Zm];exact Ua (by omega),by rw[Zm];exact Ua (by omega),by rw[Zm];exact Ua (by omega)⟩
noncomputable def ZsE (b:Za) (c:ZA) (live:List Bool) (l:List Zk) (t:Zh) (k:Nat):Bool :=
  ZD0 ((atI (K9 t) (k:Int)).getD false) ((atI (Gp t) (k:Int)).getD ZqX) ((atI (Gm t) (k:Int)).getD ZqX) (Zyx (k:Int) (ZlV b c live l t (k:Int)))
theorem Zy2 (l:List Int) (x:Int) (hl:l.length<=1048576):ZbL l x=some (decide (x∈l)):=by
  have hL:Len l:=by unfold Len;omega
  unfold ZbL;rw[X5 (l:=l) hL (p:=λy=>decide (y=x)) (out:=λi=>decide (0<=i)) (step:=λv=>Qf l x v.1)
    (λk y hy=>by
      have hk:=(Ub.1 hy).1;simp only[Qf,show (k:Int)<(l.length:Int) from by omega,Uj,Zm,hy,Bq,Uk];split
      · rw[show decide (0<=(k:Int))=true from by simp]
      · rfl)
    (by simp only[Qf,Uf,Uh];rfl)]
  congr 1;rw[Kp,Uk,Uk,Qw,Kx];simp
def Fed (b:Za) (live:List Bool) (ch:List Bool) (node:Int) (m:Nat):Prop:=∃ (k:Nat) (x:Zx),k<m/\(Zy b)[k]?=some x/\live[k]?=some true/\Gw x=node/\atI ch (GA x)=some true
noncomputable def due (b:Za) (live:List Bool) (dirty:List Int) (ch:List Bool) (node:Int):Bool:=tr (node∈dirty\/Fed b live ch node (Zy b).length)
theorem ZCn {b:Za} {live ch:List Bool} {node:Int} {k:Nat} {x:Zx} (hx:(Zy b)[k]?=some x):Fed b live ch node (k+1)<->Fed b live ch node k\/(live[k]?=some true/\Gw x=node/\atI ch (GA x)=some true):=by
  constructor
  · rintro ⟨j,y,hj,hy,h1,h2,h3⟩
    by_cases e:j=k
    · subst e
      rw[hx] at hy;injection hy with hy
      subst hy;exact .inr ⟨h1,h2,h3⟩
    · exact .inl ⟨j,y,by omega,hy,h1,h2,h3⟩
  · rintro (⟨j,y,hj,hy,h1,h2,h3⟩ | ⟨h1,h2,h3⟩)
    · exact ⟨j,y,by omega,hy,h1,h2,h3⟩
    · exact ⟨k,x,by omega,hx,h1,h2,h3⟩
theorem Zxu {b:Za} {live:List Bool} {node y:Int}:y∈toL b live node<->∃ (k:Nat) (x:Zx),(Zy b)[k]?=some x/\y=(k:Int)/\live[k]?=some true/\Gw x=node:=by
  unfold toL;rw[X8];constructor
  · rintro ⟨k,x,hx,hy⟩
    rw[Uw] at hy;unfold toF at hy;split at hy
    · rename_i q
      split at hy
      · rename_i q2
        refine ⟨k,x,hx,Uu.1 hy,?_,q2⟩;cases e:live[k]? with
        | none=>rw[e] at q;cases q
        | some lv=>rw[e] at q;rw[show lv=true from q]
      · cases hy
    · cases hy
  · rintro ⟨k,x,hx,rfl,h1,h2⟩
    refine ⟨k,x,hx,?_⟩;rw[Uw];unfold toF;rw[h1,UJ,Uc rfl,Uc h2];exact Uu.2 rfl
theorem ZFu {b:Za} (h:YT b) (live:List Bool) (node:Int):(toL b live node).length<=6000:=by
  have:=Zxt h live node (Zy b).length;rw[Um] at this;exact this
theorem ZDZ {b:Za} (h:YT b) {ch:List Bool} (hch:ch.length=Ja b) {x:Zx} (hx:x∈Zy b):∃ c,atI ch (GA x)=some c:=by
  have:=(Zhk h hx).1;have e:=nN b;obtain ⟨c,hc,_⟩:=Zkn (l:=ch) this.1 (by omega);exact ⟨c,hc⟩
theorem ZCu {b:Za} (h:YT b) {v:ZO} (hv:VOk b v) {live:List Bool} {ch:List Bool} (hch:ch.length=Ja b) (node:Int) :
    ZJ (toL b live node) (ch,((v,live,()):Ym),())=some (tr (Fed b live ch node (Zy b).length)):=by
  have hl:=ZFu h live node;have el:ZO.links (GP ((v,live,()):Ym))=Zy b:=hv.links;rw[Vu (by unfold Len;omega) (λy=>((atI (Zy b) y).bind λx=>atI ch (GA x)).getD false) (λy hy=>by
    obtain ⟨k,x,hx,rfl,_,_⟩:=Zxu.1 hy;obtain ⟨c,hc⟩:=ZDZ h hch (Ue hx);show Ve (k:Int) ch ((v,live,()):Ym)=_;unfold Ve;rw[el,Zm,hx,Bq,Bq,hc];rfl)]
  congr 1;rw[Kp,Kx,YS];constructor
  · rintro ⟨y,hy,hp⟩
    obtain ⟨k,x,hx,rfl,h1,h2⟩:=Zxu.1 hy;rw[Zm,hx,Bq] at hp;obtain ⟨c,hc⟩:=ZDZ h hch (Ue hx);rw[hc,UJ] at hp;subst hp;exact ⟨k,x,(Ub.1 hx).1,hx,h1,h2,hc⟩
  · rintro ⟨k,x,hk,hx,h1,h2,h3⟩
    refine ⟨(k:Int),Zxu.2 ⟨k,x,hx,rfl,h1,h2⟩,?_⟩;rw[Zm,hx,Bq,h3];rfl
theorem Zo1 {α σ:Type} {f:Nat->α->σ->σ} {I:σ->Prop}:∀ (l:List α) (m:Nat) (s:σ),I s->(∀ k x s,l[k]?=some x->I s->I (f (m+k) x s))->I (foldI f m l s)
  | [],_,_,h,_=>h
  | x::l,m,s,h,hf=>by
    simp only[foldI];have h0:=hf 0 x s rfl h;rw[Kd] at h0;refine Zo1 l (m+1) _ h0 λk y s hy hs=>?_;rw[show m+1+k=m+(k+1) by omega];exact hf (k+1) y s (by rw[U8];exact hy) hs
def StB (st:NSt):Prop:=∀ q,st=some q->ZBQ q.2
theorem ZGG:ZBQ ZqX:=by
  refine ⟨⟨?_,?_⟩,?_,?_⟩<;>decide
theorem ZEG {s:Zv} (h:Zij s):ZBQ s:=by
  obtain ⟨z1,z2,z3⟩:=h;exact ⟨⟨by omega,by omega⟩,by omega,by omega⟩
theorem ZC7 {a s:Zv} (ha:ZBQ a) (hs:ZBQ s):ZBQ (hul a s):=by
  obtain ⟨⟨a1,a2⟩,a3,a4⟩:=ha;obtain ⟨⟨b1,b2⟩,b3,b4⟩:=hs;unfold hul;refine ⟨⟨?_,?_⟩,?_,?_⟩
  · show -1000000<=Min.min _ _;omega
  · show Min.min _ _<=1000000;omega
  · show -1000000<=Max.max _ _;omega
  · show Max.max _ _<=1000000;omega
theorem ZDf {b:Za} (h:YT b) {v:ZO} (hv:VOk b v) {c:ZA} (hc:ZaH c) {t:Zh} (ht:ZpW (Ja b) t) {k:Nat} {x:Zx} (hx:(Zy b)[k]?=some x) {st:NSt} (hs:StB st):StB (Zwn b c t x st):=by
  obtain ⟨r,a,s,hr,ha,hs',hsb⟩:=ZwM h ht (Ue hx);obtain ⟨d,o,e1,e2,_,_,o1,o2⟩:=spans_eq h hv hc hx hsb.1 hsb.2;have hsp:spn b c x s=(d,o):=by unfold spn;rw[e2];rfl
  have hu:Zwn b c t x st=if r=true then ZAA st (ZuI a d) o else st:=by
    unfold Zwn;rw[hr,ha,hs'];simp only[UJ,hsp]
  rw[hu];split
  · intro q hq
    cases st with
    | none =>
      injection hq with hq
      rw[<-hq];exact ⟨o1,o2⟩
    | some p =>
      injection hq with hq
      rw[<-hq];exact ZC7 (hs p rfl) ⟨o1,o2⟩
  · exact hs
theorem ZtN {b:Za} {c:ZA} {br:List Int} {l:List Zk} (hA:ZsH b c br l) {v:ZO} (hv:VOk b v) {t:Zh} (ht:ZpW (Ja b) t) (live:List Bool) (node:Int):StB (ZlV b c live l t node):=by
  unfold ZlV;refine Zo1 _ _ _ ?_ (λk x st hx hs=>?_)
  · unfold Zk1
    refine Zo1 _ _ _ (λq hq=>by cases hq) (λk x st hx hs=>?_);show StB (if Gl x=node then _ else st);split
    · intro q hq
      injection hq with hq
      rw[<-hq];exact ZEG (hA.src k x hx).2.2.2
    · exact hs
  · show StB (if (live[0+k]?).getD false=true then _ else st)
    split
    · split
      · exact ZDf hA.blk hv hA.cor ht hx hs
      · exact hs
    · exact hs
theorem ZvY {n:Nat} {t:Zh} (ht:ZpW n t) (k:Nat) {r:Bool×Zk} (hr:ZBQ (GR r.2)):ZpW n (Zwu t k r):=by
  refine ⟨?_,?_,?_,λs hs=>?_⟩
  · show (List.set (K9 t) k r.1).length=n
    rw[Uy];exact ht.lr
  · show (List.set (Gp t) k (GK r.2)).length=n
    rw[Uy];exact ht.la
  · show (List.set (Gm t) k (GR r.2)).length=n
    rw[Uy];exact ht.ls
  · rcases U4 (show s∈List.set (Gm t) k (GR r.2) from hs) with q | q
    · exact ht.sl s q
    · rw[q];exact hr
theorem Zyy {st:NSt} (h:StB st) (node:Int):ZBQ (GR (Zyx node st).2):=by
  cases st with
  | none=>exact ZGG
  | some q=>exact h q rfl
theorem ZGv {live:List Bool} {L:List Zx} {n:Nat} {out:List Int} {v:Nat} (h:nxt live L n out=some v):v<n/\(v:Int) ∉ out/\Zmq live L out (v:Int)=0:=by
  unfold nxt at h;rw[List.find?_range_eq_some] at h;obtain ⟨hp,hv,_⟩:=h;rw[Ur,Uk,Uk] at hp;exact ⟨Kz.1 hv,hp⟩
theorem ZAY (live:List Bool) (L:List Zx) (n:Nat):∀ (m:Nat) (out:List Int),(∀ u∈out,0<=u/\u<(n:Int))->(Zzy live L n m out).1.length<=out.length+m/\∀ u∈(Zzy live L n m out).1,0<=u/\u<(n:Int)
  | 0,out,h=>⟨by show out.length<=_;omega,h⟩
  | m+1,out,h=>by
    unfold Zzy;cases e:nxt live L n out with
    | none=>exact ⟨by simp,λu hu=>by cases hu⟩
    | some v =>
      have hv:=(ZGv e).1;obtain ⟨h1,h2⟩:=ZAY live L n m (out++[(v:Int)]) (λu hu=>by
        rcases UB.1 hu with q | q
        · exact h u q
        · rw[Uu.1 q];omega)
      refine ⟨?_,h2⟩;rw[Ug] at h1;simp only[Uz,Ux] at h1;show (Zzy live L n m (out++[(v:Int)])).1.length<=_;omega
theorem ZCR (b:Za) (br:List Int):(Zj6 b br).1.length<=Ja b/\∀ u∈(Zj6 b br).1,0<=u/\u<(Ja b:Int):=by
  have:=ZAY (Zb7 b br) (Zy b) (Ja b) (Ja b) [] (λu hu=>by cases hu);rw[Ux,Uw] at this;exact this
noncomputable def newV (b:Za) (c:ZA) (live:List Bool) (l:List Zk) (t:Zh) (node:Int):Bool×Zk:=Zyx node (ZlV b c live l t node)
noncomputable def Zzu (r:Bool×Zk):Bool:=r.1&&!tr (Zcu (GK r.2))
noncomputable def Zxg (b:Za) (c:ZA) (live:List Bool) (l:List Zk) (dirty:List Int):List Int->List Int->Zh->List Bool->Bool×List Int×Zh
  | [],d,t,_=>(true,d,t)
  | node::r,d,t,ch=>match due b live dirty ch node with
    | true=>match Zzu (newV b c live l t node) with
      | true=>(false,[],t)
      | false=>Zxg b c live l dirty r (d++[node]) (Zwu t node.toNat (newV b c live l t node)) (List.set ch node.toNat (ZsE b c live l t node.toNat))
    | false=>Zxg b c live l dirty r d t ch
theorem Zwt {b:Za} {c:ZA} {live:List Bool} {l:List Zk} {t:Zh} {k:Nat} {x:Bool} {a s:Zv} (hx:atI (K9 t) (k:Int)=some x) (ha:atI (Gp t) (k:Int)=some a) (hs:atI (Gm t) (k:Int)=some s):ZsE b c live l t k=ZD0 x a s (newV b c live l t (k:Int)):=by
  unfold ZsE newV;rw[hx,ha,hs];rfl
theorem ZuN (b:Za) (c:ZA) (live:List Bool) (l:List Zk) (dirty:List Int) {n:Nat} {P:Zh->Prop} (hP:∀ (t:Zh) (node:Int),P t->P (Zwu t node.toNat (newV b c live l t node))) :
    ∀ (r d:List Int) (t:Zh) (ch:List Bool),P t->(Zxg b c live l dirty r d t ch).2.1.length<=d.length+r.length/\P (Zxg b c live l dirty r d t ch).2.2
  | [],d,t,ch,h=>⟨by show d.length<=_;simp,h⟩
  | node::r,d,t,ch,h=>by
    unfold Zxg;split
    · split
      · exact ⟨by simp,h⟩
      · have:=ZuN b c live l dirty (n:=n) hP r (d++[node]) _ (List.set ch node.toNat (ZsE b c live l t node.toNat)) (hP t node h)
        rw[Ug] at this;simp only[Uz,Ux] at this ⊢;exact ⟨by omega,this.2⟩
    · have:=ZuN b c live l dirty (n:=n) hP r d t ch h
      simp only[Uz];exact ⟨by omega,this.2⟩
def noT:Zh:=([],[],[],())
section
variable {b:Za} {c:ZA} {br:List Int} {l:List Zk} {v:ZO}
theorem ZDa (hA:ZsH b c br l) {ch:List Bool} (hch:ch.length=Ja b) {node:Int} {dirty:List Int}
    {v0:List Int} {v1:Int} {c0:List Bool} {c1 c2:List Zv} {l0:List Bool} {l1 l2:List Zv} {R:(List Int×Int×List Bool×List Zv×List Zv×List Bool×List Zv×List Zv×List Bool×Unit) ⊕ (Zh×List Int×Bool)}
    (hR:Vh b c l (Zy b) (Zb7 b br) v0 v1 c0 c1 c2 l0 l1 l2 ch node (due b (Zb7 b br) dirty ch node) ((Zy b).length:Int)=some (.inr R)) :
    Zq (λu=>Vh b c l (Zy b) (Zb7 b br) v0 v1 c0 c1 c2 l0 l1 l2 ch node u.1 u.2.1) (decide (node∈dirty),(0:Int),())=some R:=by
  have h:=hA.blk;have h6:=Vq h;have hll:(Zb7 b br).length=(Zy b).length:=Zie _ _;refine Yy (Zy b).length (λk u=>u=(tr (node∈dirty\/Fed b (Zb7 b br) ch node k),(k:Int),())) _ ?_ ?_ ?_
  · have e:tr (node∈dirty\/Fed b (Zb7 b br) ch node 0)=decide (node∈dirty):=ZqV (by
      rw[Uk];constructor
      · exact .inl
      · rintro (q | ⟨k,_,hk,_⟩)
        · exact q
        · omega)
    show _=(tr _,(0:Int),());rw[e]
  · rintro k _ hk rfl
    have hx:(Zy b)[k]?=some ((Zy b)[k]'hk):=Ua _;have hlv:(Zb7 b br)[k]?=some ((Zb7 b br)[k]'(by omega)):=Ua _;generalize (Zy b)[k]'hk=x at hx;generalize (Zb7 b br)[k]'(by omega)=lv at hlv;obtain ⟨cx,hcx⟩:=ZDZ h hch (Ue hx);refine .inl ⟨(tr (node∈dirty\/Fed b (Zb7 b br) ch node (k+1)),((k+1:Nat):Int),()),?_,rfl⟩;show Vh b c l (Zy b) (Zb7 b br) v0 v1 c0 c1 c2 l0 l1 l2 ch node (tr (node∈dirty\/Fed b (Zb7 b br) ch node k)) (k:Int)=_;unfold Vh;rw[Uc (by omega),Y4 (by omega)];have hf:=ZCn (live:=Zb7 b br) (ch:=ch) (node:=node) hx;rw[hlv,hcx] at hf;by_cases q:node∈dirty\/Fed b (Zb7 b br) ch node k
    · rw[Uc (ZU q),ZU (q.imp id λz=>hf.2 (.inl z))]
    · rw[Ud (λz=>q ((YS _).1 z)),Zm,hlv,Bq]
      have hd:node ∉ dirty:=λz=>q (.inl z);have hk0:¬Fed b (Zb7 b br) ch node k:=λz=>q (.inr z);by_cases q1:lv=true
      · rw[Uc q1,Zm,hx,Bq]
        by_cases q2:Gw x=node
        · rw[Uc q2,hcx,Bq]
          have e:tr (node∈dirty\/Fed b (Zb7 b br) ch node (k+1))=cx:=ZqV (by
            rw[hf];constructor
            · exact λz=>.inr (.inr ⟨by rw[q1],q2,by rw[z]⟩)
            · rintro (z | z | ⟨_,_,z⟩)
              · exact absurd z hd
              · exact absurd z hk0
              · injection z)
          rw[e]
        · rw[Ud q2,Yj (λz=>by
            rcases z with z | z
            · exact hd z
            · rcases hf.1 z with z | z
              · exact hk0 z
              · exact q2 z.2.1)]
      · rw[Ud q1,Yj (λz=>by
          rcases z with z | z
          · exact hd z
          · rcases hf.1 z with z | z
            · exact hk0 z
            · have:=z.1;injection this with this;exact q1 this)]
  · rintro _ rfl
    exact hR
theorem ZCt (hA:ZsH b c br l) (hv:VOk b v) {ch:List Bool} (hch:ch.length=Ja b) (node:Int) {dirty:List Int} (hd:dirty.length<=1048576) {ρ:Type} (T F:Option ρ) :
    ((Yc dirty node).bind λx=>if x=true then T else (ZbA ((v,Zb7 b br,()):Ym) node).bind λto0=>(ZJ to0 (ch,((v,Zb7 b br,()):Ym),())).bind λy=>if y=true then T else F)=if due b (Zb7 b br) dirty ch node=true then T else F:=by
  have h:=hA.blk;have hll:(Zb7 b br).length=(Zy b).length:=Zie _ _;rw[Zf9 (by unfold Len;omega),Bq,Zrt h hv hll,Bq,ZCu h hv hch,Bq];unfold due;by_cases q:node∈dirty
  · rw[Uc (UX q),Uc (ZU (.inl q))]
  · rw[Ud (by rw[Uk];exact q)]
    by_cases q2:Fed b (Zb7 b br) ch node (Zy b).length
    · rw[Uc (ZU q2),Uc (ZU (.inr q2))]
    · rw[Ud (λz=>q2 ((YS _).1 z)),Ud (λz=>by rcases (YS _).1 z with z | z;exact q z;exact q2 z)]
theorem ZEI {l0 ch:List Bool} {l1 l2:List Zv} {node:Int} {x cc:Bool} {a s:Zv} (hx:atI l0 node=some x) (ha:atI l1 node=some a) (hs:atI l2 node=some s) (hc:atI ch node=some cc) (r:Bool×Zk) {ρ:Type} (F:Bool->ρ) :
    ((atI l0 node).bind λx1=>if (r.1 == x1)=true then (atI l1 node).bind λx2=>if eqS (GK r.2) x2=true then (atI l2 node).bind λx3=>(atI ch node).bind λ_=>some (F (!(eqS (GR r.2) x3))) else (atI ch node).bind λ_=>(atI l2 node).bind λ_=>some (F true)
      else (atI ch node).bind λ_=>(atI l1 node).bind λ_=>(atI l2 node).bind λ_=>some (F true))=some (F (ZD0 x a s r)):=by
  rw[hx,ha,hs,hc];simp only[Bq];unfold ZD0;rw[show (r.1 == x)=(x == r.1) from Bool.beq_comm,ZxR _ a,ZxR _ s];split
  · split
    · rfl
    · rfl
  · rfl
theorem ZBg {t:Zh} {n k:Nat} {ch:List Bool} (ht:ZpW n t) (hch:ch.length=n) (hk:k<n):∃ cc,atI ch (k:Int)=some cc:=⟨_,by rw[Zm];exact Ua (by omega)⟩
theorem Zuk (hA:ZsH b c br l) (hv:VOk b v) (hl:l.length<=1048576) {dirty ord:List Int} (hd:dirty.length<=1048576) {d:List Int} {t:Zh} {ch:List Bool} (ht:ZpW (Ja b) t) (hch:ch.length=Ja b) {k:Nat} {node:Int} (hk:ord[k]?=some node) (hk2:k<=1048576) (hdl:d.length<=1048576) (hn:0<=node/\node<(Ja b:Int)) :
    Xw ((v,Zb7 b br,()):Ym) c l dirty ord d (k:Int) (K9 t) (Gp t) (Gm t) ch=some (match due b (Zb7 b br) dirty ch node with
      | true=>match Zzu (newV b c (Zb7 b br) l t node) with
        | true=>.inr ([],false,t)
        | false=>.inl (d++[node],((k+1:Nat):Int),K9 (Zwu t node.toNat (newV b c (Zb7 b br) l t node)),Gp (Zwu t node.toNat (newV b c (Zb7 b br) l t node)),Gm (Zwu t node.toNat (newV b c (Zb7 b br) l t node)),List.set ch node.toNat (ZsE b c (Zb7 b br) l t node.toNat),())
      | false=>.inl (d,((k+1:Nat):Int),K9 t,Gp t,Gm t,ch,())):=by
  have h:=hA.blk;have hn1:=Zjr h;have hll:(Zb7 b br).length=(Zy b).length:=Zie _ _;have hlen:Len l:=by unfold Len;omega
  have hkl:=(Ub.1 hk).1;obtain ⟨j,rfl⟩:∃ j:Nat,node=(j:Int):=⟨node.toNat,by omega⟩;have hj:j<Ja b:=by omega
  obtain ⟨x,a,s,hx,ha,hs⟩:=ZBv ht hj;obtain ⟨cc,hcc⟩:=ZBg ht hch hj;have hw:=Zwt (b:=b) (c:=c) (live:=Zb7 b br) (l:=l) hx ha hs;have hnode:=ZvF h hv hA.cor hll ht hlen (ZGw hA.src) (j:Int);rw[show Zyx (j:Int) (ZlV b c (Zb7 b br) l t (j:Int))=newV b c (Zb7 b br) l t (j:Int) from rfl] at hnode;unfold Xw;rw[Uc (by omega),Zm,hk,Bq,ZCt hA hv hch (j:Int) hd,Y4 hk2,Zg (by simp only[Uz,Ux];omega)];cases hdue:due b (Zb7 b br) dirty ch (j:Int) with
  | false=>rw[Ud (by decide)]
  | true =>
    rw[Uc rfl];show (Vd _ c l t (j:Int)).bind _=_;rw[hnode,Bq,Up,hw];generalize newV b c (Zb7 b br) l t (j:Int)=r;have htail:=ZEI hx ha hs hcc r (F:=λz=>(Sum.inl (d++[(j:Int)],((k+1:Nat):Int),K9 (Zwu t j r),Gp (Zwu t j r),Gm (Zwu t j r),List.set ch j z,()):(List Int×Int×List Bool×List Zv×List Zv×List Bool×Unit) ⊕ (List Int×Bool×Zh)));by_cases q1:r.1=true
    · rw[Uc q1,show Zbz r.2.2.1=some (tr (Zcu (GK r.2))) from Zgm _,Bq]
      have hb:Zzu r = !tr (Zcu (GK r.2)):=by
        unfold Zzu;rw[q1,Bool.true_and]
      rw[hb];by_cases q2:Zcu (GK r.2)
      · rw[Uc (ZU q2),ZU q2]
        exact htail
      · rw[Ud (λz=>q2 ((YS _).1 z)),Yj q2]
        rfl
    · rw[Ud q1]
      have hb:Zzu r=false:=by
        unfold Zzu;rw[KL] at q1;rw[q1,KW]
      rw[hb];exact htail
end
section
variable {b:Za} {c:ZA} {br:List Int} {l:List Zk} {v:ZO}
theorem ZuW (hA:ZsH b c br l) (hv:VOk b v) (hl:l.length<=1048576) {dirty:List Int} {TO:List Int×Int} (hd:dirty.length<=1048576) {d:List Int} {c0:List Bool} {c1 c2:List Zv} {t:Zh} {ch:List Bool} (ht:ZpW (Ja b) t) (hch:ch.length=Ja b) {k:Nat} {node:Int} (hk:TO.1[k]?=some node) (hk2:k<=1048576) (hdl:d.length<=1048576) (hn:0<=node/\node<(Ja b:Int)) :
    Ql b c l dirty (Zy b) (Zb7 b br) TO d (k:Int) c0 c1 c2 (K9 t) (Gp t) (Gm t) ch=some (match due b (Zb7 b br) dirty ch node with
      | true=>match Zzu (newV b c (Zb7 b br) l t node) with
        | true=>.inr (noT,[],false)
        | false=>.inl (d++[node],((k+1:Nat):Int),c0,c1,c2,K9 (Zwu t node.toNat (newV b c (Zb7 b br) l t node)),Gp (Zwu t node.toNat (newV b c (Zb7 b br) l t node)),Gm (Zwu t node.toNat (newV b c (Zb7 b br) l t node)),List.set ch node.toNat (ZsE b c (Zb7 b br) l t node.toNat),())
      | false=>.inl (d,((k+1:Nat):Int),c0,c1,c2,K9 t,Gp t,Gm t,ch,())):=by
  have h:=hA.blk;have hn1:=Zjr h;have hll:(Zb7 b br).length=(Zy b).length:=Zie _ _;have hlen:Len l:=by unfold Len;omega
  have hkl:=(Ub.1 hk).1;obtain ⟨j,rfl⟩:∃ j:Nat,node=(j:Int):=⟨node.toNat,by omega⟩;have hj:j<Ja b:=by omega
  obtain ⟨x,a,s,hx,ha,hs⟩:=ZBv ht hj;obtain ⟨cc,hcc⟩:=ZBg ht hch hj;have hw:=Zwt (b:=b) (c:=c) (live:=Zb7 b br) (l:=l) hx ha hs;have hnode:=Zwc h hv hA.cor hll ht hlen (j:Int);have hset:=ZGE hx ha hs (j:Int) (ZlV b c (Zb7 b br) l t (j:Int));rw[show Zyx (j:Int) (ZlV b c (Zb7 b br) l t (j:Int))=newV b c (Zb7 b br) l t (j:Int) from rfl] at hnode hset;unfold Ql;rw[Uc (by omega),Zm,hk,Bq,Zy2 dirty (j:Int) hd,Bq];refine ZDa hA hch ?_;unfold Vh;rw[Ud (Uf _),Y4 hk2];cases hdue:due b (Zb7 b br) dirty ch (j:Int) with
  | false=>rw[Ud (by decide)]
  | true =>
    rw[Uc rfl];show (Ze0 b c (Zy b) (Zb7 b br) l t (j:Int)).bind _=_;rw[hnode,Bq,Up,hw];generalize newV b c (Zb7 b br) l t (j:Int)=r at *;have hput:∀ {ρ:Type} (F:Bool×Zh->ρ),((Zgf t (j:Int) r.1 r.2).bind λz=>(atI ch (j:Int)).bind λ_=>Zt ((List.length d+List.length [(j:Int)])*(8:Nat)<=(140737488355328:Nat)) <| some (F z))=some (F (ZD0 x a s r,Zwu t j r)):=λF=>by
      rw[hset,Bq,hcc,Bq,Zg (by simp only[Uz,Ux];omega)]
    have hfin:=hput λz=>(Sum.inr (Sum.inl (d++[(j:Int)],((k+1:Nat):Int),c0,c1,c2,K9 z.2,Gp z.2,Gm z.2,List.set ch j z.1,())):(Bool×Int×Unit) ⊕ ((List Int×Int×List Bool×List Zv×List Zv×List Bool×List Zv×List Zv×List Bool×Unit) ⊕ (Zh×List Int×Bool)));by_cases q1:r.1=true
    · rw[Uc q1,show ZcT r.2.2.1=some (tr (Zcu (GK r.2))) from ZjK _,Bq]
      have hb:Zzu r = !tr (Zcu (GK r.2)):=by
        unfold Zzu;rw[q1,Bool.true_and]
      rw[hb];by_cases q2:Zcu (GK r.2)
      · rw[Uc (ZU q2),ZU q2]
        exact hfin
      · rw[Ud (λz=>q2 ((YS _).1 z)),Yj q2]
        rfl
    · rw[Ud q1]
      have hb:Zzu r=false:=by
        unfold Zzu;rw[KL] at q1;rw[q1,KW]
      rw[hb];exact hfin
theorem ZsC (hA:ZsH b c br l) (hv:VOk b v) (hl:l.length<=1048576) {dirty:List Int} (hd:dirty.length<=1048576) {TO:List Int×Int} (hT:TO.1.length<=1000/\∀ u∈TO.1,0<=u/\u<(Ja b:Int)) {c0:List Bool} {c1 c2:List Zv} :
    ∀ (r:List Int) (k:Nat) (d:List Int) (t:Zh) (ch:List Bool),TO.1.drop k=r->k<=TO.1.length->d.length<=k->ZpW (Ja b) t->ch.length=Ja b->
      Zq (λu=>Xw ((v,Zb7 b br,()):Ym) c l dirty TO.1 u.1 u.2.1 u.2.2.1 u.2.2.2.1 u.2.2.2.2.1 u.2.2.2.2.2.1) (d,(k:Int),K9 t,Gp t,Gm t,ch,())=some ((Zxg b c (Zb7 b br) l dirty r d t ch).2.1,(Zxg b c (Zb7 b br) l dirty r d t ch).1,(Zxg b c (Zb7 b br) l dirty r d t ch).2.2)/\
      Zq (λu=>Ql b c l dirty (Zy b) (Zb7 b br) TO u.1 u.2.1 u.2.2.1 u.2.2.2.1 u.2.2.2.2.1 u.2.2.2.2.2.1 u.2.2.2.2.2.2.1 u.2.2.2.2.2.2.2.1 u.2.2.2.2.2.2.2.2.1) (d,(k:Int),c0,c1,c2,K9 t,Gp t,Gm t,ch,())=some (match (Zxg b c (Zb7 b br) l dirty r d t ch).1 with
        | true=>((Zxg b c (Zb7 b br) l dirty r d t ch).2.2,(Zxg b c (Zb7 b br) l dirty r d t ch).2.1,true)
        | false=>(noT,[],false))
  | [],k,d,t,ch,hr,hk,hdk,ht,hch=>by
    have hke:k=TO.1.length:=by
      have:=UM List.length hr;rw[UR,Ux] at this;omega
    subst hke;constructor
    · refine Xn ?_
      show Xw ((v,Zb7 b br,()):Ym) c l dirty TO.1 d (TO.1.length:Int) (K9 t) (Gp t) (Gm t) ch=_;unfold Xw;rw[Ud (Uf _)];rfl
    · refine Xn ?_
      show Ql b c l dirty (Zy b) (Zb7 b br) TO d (TO.1.length:Int) c0 c1 c2 (K9 t) (Gp t) (Gm t) ch=_;unfold Ql;rw[Ud (Uf _)];rfl
  | node::r,k,d,t,ch,hr,hk,hdk,ht,hch=>by
    have hkl:k<TO.1.length:=by
      have:=UM List.length hr;rw[UR,Uz] at this;omega
    have hnode:TO.1[k]?=some node:=by
      have:=UM (λz=>z[0]?) hr;simp only[Kb,Kd,KI] at this;exact this
    have hr':TO.1.drop (k+1)=r:=by
      rw[<-List.tail_drop,hr];rfl
    have hin:=hT.2 node (Ue hnode);have h1:=Zuk hA hv hl hd (ord:=TO.1) ht hch hnode (by omega) (d:=d) (by omega) hin;have h2:=ZuW hA hv hl hd (TO:=TO) (c0:=c0) (c1:=c1) (c2:=c2) ht hch hnode (by omega) (d:=d) (by omega) hin;unfold Zxg;cases hdue:due b (Zb7 b br) dirty ch node with
    | false =>
      rw[hdue] at h1 h2;have ih:=ZsC hA hv hl hd hT (c0:=c0) (c1:=c1) (c2:=c2) r (k+1) d t ch hr' hkl (by omega) ht hch;exact ⟨(Xq h1).trans ih.1,(Xq h2).trans ih.2⟩
    | true =>
      rw[hdue] at h1 h2;cases hbad:Zzu (newV b c (Zb7 b br) l t node) with
      | true =>
        rw[hbad] at h1 h2;exact ⟨Xn h1,Xn h2⟩
      | false =>
        rw[hbad] at h1 h2;have ih:=ZsC hA hv hl hd hT (c0:=c0) (c1:=c1) (c2:=c2) r (k+1) (d++[node]) (Zwu t node.toNat (newV b c (Zb7 b br) l t node)) (List.set ch node.toNat (ZsE b c (Zb7 b br) l t node.toNat)) hr' hkl (by rw[Ug];simp only[Uz,Ux];omega)
          (ZvY ht _ (Zyy (ZtN hA hv ht _ _) _)) (by rw[Uy];exact hch)
        exact ⟨(Xq h1).trans ih.1,(Xq h2).trans ih.2⟩
end
theorem ZB5 {t:Zh} {n:Nat} (ht:ZpW n t) (hn:n<=1048576):Zdb t=some t:=by
  have h1:=ht.lr;have h2:=ht.la;have h3:=ht.ls;unfold Zdb ZbH XM;rw[Zg (by rw[Ux];omega),Zg (by rw[Ux];omega),Zg (by rw[Ux];omega)];rfl
theorem ZwA {b:Za} (h:YT b) {v:ZO} (hv:VOk b v) {nd:List Int} (hnd:nd.length<=1048576):Zai v nd=some (tr (Zm8 (Ja b:Int) nd)):=by
  have hn:=Zjr h;unfold Zai;rw[ZuD h hv,Bq,YZ (by omega) (by omega)];exact Zrz nd _ hnd
theorem ZwW {b:Za} (h:YT b) {nd:List Int} (hnd:nd.length<=1048576):Zh9 b nd=some (tr (Zm8 (Ja b:Int) nd)):=by
  have hn:=Zjr h;unfold Zh9;rw[Zja h,Bq,Zka nd _ hnd (by omega)];rfl
theorem Zxx (b:Za) (c:ZA) (br:List Int) (l:List Zk) (t:Zh) (dirty:List Int) (hb:sm ZT b) (hc:sm XW c) (hbr:br.length<=1048576) (hl:l.length<=1048576) (hd:dirty.length<=1048576) :
    ∃ r n,Za5 b c br l t dirty=some r/\Zbe b c br l t dirty=some r/\r.2.1.length<=1048576/\ZpW n r.1/\n<=1048576/\
      ((ZsH b c br l/\Zlw (Ja b:Int) t/\Zm8 (Ja b:Int) dirty/\((r.2.2=0/\(true,r.2.1,r.1)=Zxg b c (Zb7 b br) l dirty (Zj6 b br).1 [] t (List.replicate (Ja b) false))\/(r.2.2=3/\r.1=noT/\r.2.1=[]/\(Zxg b c (Zb7 b br) l dirty (Zj6 b br).1 [] t (List.replicate (Ja b) false)).1=false)))\/
       (r.2.2≠0/\r.1=noT/\r.2.1=[]/\(r.2.2=7/\Pre b c br l/\Zlw (Ja b:Int) t/\(Zj6 b br).2≠true\/¬(Pre b c br l/\Zlw (Ja b:Int) t/\Zm8 (Ja b:Int) dirty)))):=by
  have en:(Ja b:Int)=2*((places (KZ b)).length:Int):=by have:=nN b;omega
  rw[en];unfold Za5 Zbe;have hnil:ZpW 0 noT:=⟨rfl,rfl,rfl,λs hs=>by cases hs⟩;rcases ZFE b c br l t hb hc hbr hl with ⟨code,hne,e1,e2,hw⟩ | ⟨v,hA,hT,hv,e1,e2⟩
  · rw[e1,e2,Bq,Bq,Ud hne,Ud hne]
    exact ⟨_,0,rfl,rfl,by simp,hnil,by omega,.inr ⟨hne,rfl,rfl,hw.elim .inl λq=>.inr λz=>q ⟨z.1,z.2.1⟩⟩⟩
  · have h:=hA.blk
    have hn:=Zjr h;rw[e1,e2,Bq,Uc rfl,Bq,show Zai (GP ((v,Zb7 b br,()):Ym)) dirty=_ from ZwA h hv hd,Bq,Bq,Uc rfl,ZwW h hd,Bq];rw[<-en];by_cases hN:Zm8 (Ja b:Int) dirty
    · have htb:=ZPN hT
      have hO:=ZCR b br;rw[Uc (ZU hN),Uc (ZU hN),ZB5 htb (by omega),Bq];unfold ZfW ZjN;rw[show Y6 (GP ((v,Zb7 b br,()):Ym))=some (Ja b:Int) from ZuD h hv,Bq,Zg (by omega),Zg (by omega),Zg (by omega),Zg (by omega),Zhd h,Bq,Zl5 _ _ (Vq h) hbr,Bq,ZBx h hbr hA.ris,Bq,ZGy htb (by omega),Bq,Zja h,Bq,Zg (by omega),Zg (by omega),Zg (by omega),Zg (by omega),Uc hA.ord];obtain ⟨w1,w2⟩:=ZsC hA hv hl hd (TO:=((Zj6 b br).1,0)) ⟨by show (Zj6 b br).1.length<=1000;omega,hO.2⟩ (c0:=[]) (c1:=[]) (c2:=[]) (Zj6 b br).1 0 [] t (List.replicate (Ja b) false) rfl (Ky _) (UK _) htb (UW);rw[Up];obtain ⟨u1,u2⟩:=ZuN b c (Zb7 b br) l dirty (n:=Ja b) (P:=ZpW (Ja b)) (λt node ht=>ZvY ht _ (Zyy (ZtN hA hv ht _ _) _)) (Zj6 b br).1 [] t (List.replicate (Ja b) false) htb;generalize Zxg b c (Zb7 b br) l dirty (Zj6 b br).1 [] t (List.replicate (Ja b) false)=R at *;rw[show (Zq (λv_1=>Xw ((v,Zb7 b br,()):Ym) c l dirty (Zj6 b br).1 v_1.1 v_1.2.1 v_1.2.2.1 v_1.2.2.2.1 v_1.2.2.2.2.1 v_1.2.2.2.2.2.1) (([]:List Int),(0:Int),K9 t,Gp t,Gm t,List.replicate (Ja b) false,()))=_ from w1,Bq];rw[show (Zq (λv_1=>Ql b c l dirty (Zy b) (ZgS (Zy b).length br) ((Zj6 b br).1,0) v_1.1 v_1.2.1 v_1.2.2.1 v_1.2.2.2.1 v_1.2.2.2.2.1 v_1.2.2.2.2.2.1 v_1.2.2.2.2.2.2.1 v_1.2.2.2.2.2.2.2.1 v_1.2.2.2.2.2.2.2.2.1) (([]:List Int),(0:Int),([]:List Bool),([]:List Zv),([]:List Zv),K9 t,Gp t,Gm t,List.replicate (Ja b) false,()))=_ from w2,Bq];obtain ⟨ok,dn,tt⟩:=R;cases ok with
      | true=>exact ⟨_,Ja b,rfl,rfl,by simp only[Ux] at u1 ⊢;omega,u2,by omega,.inl ⟨hA,by rw[en];exact hT,hN,.inl ⟨rfl,rfl⟩⟩⟩
      | false=>exact ⟨_,0,rfl,rfl,by simp,hnil,by omega,.inl ⟨hA,by rw[en];exact hT,hN,.inr ⟨rfl,rfl,rfl,rfl⟩⟩⟩
    · rw[Ud (λq=>hN ((YS _).1 q)),Ud (λq=>hN ((YS _).1 q))]
      exact ⟨_,0,rfl,rfl,by simp,hnil,by omega,.inr ⟨by show ¬(2:Int)=0;omega,rfl,rfl,.inr λz=>hN z.2.2⟩⟩
theorem ZBA (b:Za) (c:ZA) (br:List Int) (l:List Zk) (t:Zh) (dirty:List Int) (hb:sm ZT b) (hc:sm XW c) (hbr:br.length<=1048576) (hl:l.length<=1048576) (hd:dirty.length<=1048576) :
    ∃ r n,Za5 b c br l t dirty=some r/\Zbe b c br l t dirty=some r/\r.2.1.length<=1048576/\ZpW n r.1/\n<=1048576:=by
  obtain ⟨r,n,h1,h2,h3,h4,h5,_⟩:=Zxx b c br l t dirty hb hc hbr hl hd;exact ⟨r,n,h1,h2,h3,h4,h5⟩
end Go.Proofs.YtjepimjoknccmaaGreatDoor
