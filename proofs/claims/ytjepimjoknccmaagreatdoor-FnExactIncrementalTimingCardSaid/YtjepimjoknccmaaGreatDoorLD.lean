/-
  Plain laws: edits: what an edit may mention, and when it is possible.
-/
import Derived.Test.YtjepimjoknccmaaGreatDoorLB
import Derived.Test.YtjepimjoknccmaaGreatDoorLA
import Derived.Test.YtjepimjoknccmaaGreatDoorLC
import Derived.Test.YtjepimjoknccmaaGreatDoorSxSort
namespace Go.Proofs.YtjepimjoknccmaaGreatDoor
set_option linter.unusedVariables false
set_option linter.unusedSimpArgs false
open Go Go.Sx
theorem ZtT {e:Zj} (h:sm XO e):sm .str (Gh e)/\sm QD (GB e):=⟨h.2.2.2.2.2.1,h.2.2.2.2.2.2.1⟩
def ZmG (w:Zo):Prop:=K3 w=[]/\Gy w=[]/\GD w=[]/\Gk w=[]
theorem ZAP (w:Zo) (hw:sm QD w):(some (Decidable.decide (Wq (Wq (Wq ((↑(List.length (K3 w)):Int)+(↑(List.length (Gy w)):Int))+(↑(List.length (GD w)):Int))+(↑(List.length (Gk w)):Int))=(0:Int))):Option Bool)=some (tr (ZmG w)):=by
 obtain ⟨a1,a2,a3,a4⟩:=Zm4 hw;have s1:=Zu a1;have s2:=Zu a2;have s3:=Zu a3;have s4:=Zu a4;rw[YZ (n:=((K3 w).length:Int)+((Gy w).length:Int)) (by omega) (by omega),YZ (n:=((K3 w).length:Int)+((Gy w).length:Int)+((GD w).length:Int)) (by omega) (by omega),YZ (by omega) (by omega)];refine Zch ?_;rw[Uk];unfold ZmG;rw[<-KJ,<-KJ,<-KJ,<-KJ];omega
def Blank (e:Zj):Prop :=
 (K5 e=1/\Gs e=0/\GF e=0/\Gh e=[]/\ZmG (GB e))\/
 (K5 e=2/\Gs e=0/\GF e=0/\ZmG (GB e))\/
 (K5 e=3/\Gc e=0/\Gv e=0/\Gs e=0/\GF e=0/\Gh e=[]/\ZmG (GB e))\/
 (K5 e=4/\Gv e=0/\Gh e=[]/\ZmG (GB e))\/
 (K5 e=5/\Gc e=0/\Gv e=0/\GF e=0/\Gh e=[])
theorem Zll (e:Zj) (he:sm XO e):Zh5 e=some (tr (Blank e)):=by
 have hn:=ZAP (GB e) (ZtT he).2;unfold Zh5;rw[hn];by_cases k1:K5 e=1
 ·rw[Uc k1]
  refine JA (Yq λ_=>Yq λ_=>Yq λ_=>rfl) ?_;unfold Blank;grind
 rw[Ud k1];by_cases k2:K5 e=2
 ·rw[Uc k2]
  refine JA (Yq λ_=>Yq λ_=>rfl) ?_;unfold Blank;grind
 rw[Ud k2];by_cases k3:K5 e=3
 ·rw[Uc k3]
  refine JA (Yq λ_=>Yq λ_=>Yq λ_=>Yq λ_=>Yq λ_=>rfl) ?_;unfold Blank;grind
 rw[Ud k3];by_cases k4:K5 e=4
 ·rw[Uc k4]
  refine JA (Yq λ_=>Yq λ_=>rfl) ?_;unfold Blank;grind
 rw[Ud k4];by_cases k5:K5 e=5
 ·rw[Uc k5]
  refine JA (Yq λ_=>Yq λ_=>Yq λ_=>Zch U3) ?_;unfold Blank;grind
 ·rw[Ud k5]
  refine ZpL ?_;unfold Blank;grind
theorem Zdg (a b:List Int) (ha:a.length<=1048576):Xk a b=some (tr (a=b)):=by
 unfold Xk;by_cases hl:(a.length:Int)=(b.length:Int)
 ·rw[Uc hl,VL (l:=a) (show Len a by unfold Len;omega) (λk x=>b[k]?=some x) (bad:=false) (good:=true)
   (λk x hx hk _=>by
    have hy:b[k]?=some b[k]:=Ua (by omega);simp only[Vv,show (k:Int)<(a.length:Int) from by omega,Uj,Zm,hx,hy,Bq,Option.some.injEq];constructor
    ·intro hh;rw[Uc hh.symm]
    ·intro hh;rw[Ud (λq=>hh q.symm)])
   (λ_=>by simp only[Vv,Uf,Uh]),Zlj]
  congr 1;refine VE ⟨λh=>?_,λh=>by subst h;exact λk x hx=>hx⟩;apply UD;intro k;by_cases hk:k<a.length
  ·rw[h k a[k] (Ua hk),Ua hk]
  ·rw[UC (by omega),UC (by omega)]
 ·rw[Ud hl,Yj (λh=>hl (by rw[h]))]
def Zwx (a b:Zo):Prop:=K3 a=K3 b/\Gy a=Gy b/\GD a=GD b/\Gk a=Gk b
theorem Zqn (a b:Zo) (ha:sm QD a):ZhN a b=some (tr (Zwx a b)):=by
 obtain ⟨a1,a2,a3,a4⟩:=Zm4 ha;have s1:=Zu a1;have s2:=Zu a2;have s3:=Zu a3;have s4:=Zu a4;unfold ZhN;exact Xc (Zdg _ _ s1) λ_=>Xc (Zdg _ _ s2) λ_=>Xc (Zdg _ _ s3) λ_=>J4 (Zdg _ _ s4)
theorem ZbV (a b:Zj) (ha:sm XO a):Zfj a b=some (tr (K5 a=K5 b/\Gc a=Gc b/\Gv a=Gv b/\Gs a=Gs b/\GF a=GF b/\Gh a=Gh b/\Zwx (GB a) (GB b))):=by
 unfold Zfj;exact Yq λ_=>Yq λ_=>Yq λ_=>Yq λ_=>Yq λ_=>Yq λ_=>J4 (Zqn _ _ (ZtT ha).2)
theorem ZCU (e:Zj) (he:sm XO e):(Yr (K5 e) 1 5=some (tr (1<=K5 e/\K5 e<=5)))/\∃ o,ZhJ e=some o/\Zfj e o=some (tr (K5 e<1\/5<K5 e\/Blank e))\/(¬(1<=K5 e/\K5 e<=5)):=by
 refine ⟨VO _ _ _,?_⟩;unfold ZhJ;by_cases k1:K5 e=1
 ·rw[Uc k1]
  refine ⟨_,.inl ⟨rfl,?_⟩⟩;refine JA (ZbV e _ he) ?_;rw[show Zwx (GB e) (GB (K5 e,Gc e,Gv e,(0:Int),(0:Int),([]:List UInt8),(([]:List Int),([]:List Int),([]:List Int),([]:List Int),()),()))<->ZmG (GB e) from Iff.rfl];unfold Blank;simp only[k1];constructor
  ·rintro ⟨_,_,_,a,b,c,d⟩;exact .inr (.inr (.inl ⟨trivial,a,b,c,d⟩))
  ·intro h;grind
 rw[Ud k1];by_cases k2:K5 e=2
 ·rw[Uc k2]
  refine ⟨_,.inl ⟨rfl,?_⟩⟩;refine JA (ZbV e _ he) ?_;rw[show Zwx (GB e) (GB (K5 e,Gc e,Gv e,(0:Int),(0:Int),Gh e,(([]:List Int),([]:List Int),([]:List Int),([]:List Int),()),()))<->ZmG (GB e) from Iff.rfl];unfold Blank;simp only[k2];constructor
  ·rintro ⟨_,_,_,a,b,c,d⟩;exact .inr (.inr (.inr (.inl ⟨trivial,a,b,d⟩)))
  ·intro h;grind
 rw[Ud k2];by_cases k4:K5 e=4
 ·rw[Uc k4]
  refine ⟨_,.inl ⟨rfl,?_⟩⟩;refine JA (ZbV e _ he) ?_;rw[show Zwx (GB e) (GB (K5 e,Gc e,(0:Int),Gs e,GF e,([]:List UInt8),(([]:List Int),([]:List Int),([]:List Int),([]:List Int),()),()))<->ZmG (GB e) from Iff.rfl];unfold Blank;simp only[k4];constructor
  ·rintro ⟨_,_,a,_,_,c,d⟩;exact .inr (.inr (.inr (.inr (.inr (.inl ⟨trivial,a,c,d⟩)))))
  ·intro h;grind
 rw[Ud k4];by_cases k5:K5 e=5
 ·rw[Uc k5]
  refine ⟨_,.inl ⟨rfl,?_⟩⟩;refine JA (ZbV e _ he) ?_;rw[show Zwx (GB e) (GB (K5 e,(0:Int),(0:Int),Gs e,(0:Int),([]:List UInt8),e.snd.snd.snd.snd.snd.snd))<->True from ⟨λ_=>trivial,λ_=>⟨rfl,rfl,rfl,rfl⟩⟩];unfold Blank;simp only[k5];constructor
  ·rintro ⟨_,a,b,_,c,d,_⟩;exact .inr (.inr (.inr (.inr (.inr (.inr ⟨trivial,a,b,c,d⟩)))))
  ·intro h;grind
 rw[Ud k5];by_cases k3:K5 e=3
 ·refine ⟨_,.inl ⟨rfl,?_⟩⟩
  refine JA (ZbV e _ he) ?_;rw[show Zwx (GB e) (GB (K5 e,(0:Int),(0:Int),(0:Int),(0:Int),([]:List UInt8),(([]:List Int),([]:List Int),([]:List Int),([]:List Int),()),()))<->ZmG (GB e) from Iff.rfl];unfold Blank;simp only[k3];constructor
  ·rintro ⟨_,a,b,c,d,f,g⟩;exact .inr (.inr (.inr (.inr (.inl ⟨trivial,a,b,c,d,f,g⟩))))
  ·intro h;grind
 ·exact ⟨e,.inr (by omega)⟩
def Zct (b:Za) (e:Zj):Prop :=
 ((K5 e=1\/K5 e=2)->(0<=Gc e/\Gc e<=((places (KZ b)).length:Int)-1)/\(0<=Gv e/\Gv e<=((K8 (K4 b)).length:Int)-1))/\
 (K5 e=4->(0<=Gc e/\Gc e<=((places (KZ b)).length:Int)-1)/\Zb9 (KZ b) (Gs e)/\∃ w,(K2 b)[(Gs e).toNat]?=some w/\(0<=GF e/\GF e<=((K3 w).length:Int)-1))/\
 (K5 e=5->Zb9 (KZ b) (Gs e))
theorem ZnJ {b:Za} (h:YT b) {n:Int} (hn:Zb9 (KZ b) n):∃ w,(K2 b)[n.toNat]?=some w/\atI (K2 b) n=some w/\ZbO w ((sinks (KZ b) n).length:Int):=by
 have hwn:=h.ok.2.1;have hlt:n.toNat<(K2 b).length:=by have:=hn.1;have:=hn.2;omega
 have hw:=Ua hlt;refine ⟨_,hw,YD hn.1 hw,?_⟩;have this:ZbO _ ((sinks (KZ b) ((n.toNat:Nat):Int)).length:Int):=h.ok.2.2 n.toNat _ hw
 rwa [show ((n.toNat:Nat):Int)=n by have:=hn.1;omega] at this
theorem Zre {b:Za} (h:YT b):(K8 (K4 b)).length<=1048576:=Zu (Ztf (JK h.sm).1)
theorem ZAQ {b:Za} (h:YT b) (e:Zj) {w:Zo} (hw:(K2 b)[(Gs e).toNat]?=some w):Wq (((K3 w).length:Int)-1)=((K3 w).length:Int)-1:=by
 have:=h.ok.2.2 _ _ hw;have h1:=this.1;rw[YZ (by omega) (by omega)]
theorem Zlm {b:Za} (h:YT b) (e:Zj) (he:sm XO e):Zh6 b e=some (tr (Zct b e)):=by
 have hD:=h.ok.1;have hf:=hD.few;have hpl:=Z0 hf;have hc:=Zre h;have hwn:=h.ok.2.1;have h30:=hD.2.1.2.1;have e1:Wq (((places (KZ b)).length:Int)-1)=((places (KZ b)).length:Int)-1:=YZ (by omega) (by omega);have e2:Wq (((K8 (K4 b)).length:Int)-1)=((K8 (K4 b)).length:Int)-1:=YZ (by omega) (by omega);have e3:Wq (((K2 b).length:Int)-1)=((K6 (KZ b)).length:Int)-1:=by rw[YZ (by omega) (by omega)];omega
 have net:(ZQ (Gs e) 0 (((K6 (KZ b)).length:Int)-1))=some (tr (Zb9 (KZ b) (Gs e))):=VW _ _ _;unfold Zh6;rw[Yg _ hf,Bq,e1,e2,e3];have pc:((ZQ (Gc e) 0 (((places (KZ b)).length:Int)-1)).bind λx=>if x=true then (ZQ (Gv e) 0 (((K8 (K4 b)).length:Int)-1)).bind λy=>some y else some false) =
   some (tr ((0<=Gc e/\Gc e<=((places (KZ b)).length:Int)-1)/\(0<=Gv e/\Gv e<=((K8 (K4 b)).length:Int)-1))) :=
  Xc (VW _ _ _) λ_=>J4 (VW _ _ _)
 have mv:((ZQ (Gc e) 0 (((places (KZ b)).length:Int)-1)).bind λx=>if x=true then (ZQ (Gs e) 0 (((K6 (KZ b)).length:Int)-1)).bind λy=>if y=true then
    (atI (K2 b) (Gs e)).bind λw=>(ZQ (GF e) 0 (Wq (((K3 w).length:Int)-1))).bind λz=>some z else some false else some false) =
   some (tr ((0<=Gc e/\Gc e<=((places (KZ b)).length:Int)-1)/\Zb9 (KZ b) (Gs e)/\∃ w,(K2 b)[(Gs e).toNat]?=some w/\(0<=GF e/\GF e<=((K3 w).length:Int)-1))):=by
  refine Xc (VW _ _ _) λ_=>Xc net λhn=>?_;obtain ⟨w,hw,ha,_⟩:=ZnJ h hn;rw[ha,Bq,ZAQ h e hw];refine JA (J4 (VW _ _ _)) ⟨λq=>⟨w,hw,q⟩,λ⟨w',hw',q⟩=>?_⟩;rw[hw] at hw';injection hw' with hw'
  subst hw';exact q
 by_cases k1:K5 e=1
 ·rw[Uc k1,Uc k1]
  refine JA pc ?_;unfold Zct;grind
 rw[Ud k1];by_cases k2:K5 e=2
 ·rw[Uc k2]
  refine JA pc ?_;unfold Zct;grind
 rw[Ud k2];by_cases k4:K5 e=4
 ·rw[Uc k4]
  refine JA mv ?_;unfold Zct;grind
 rw[Ud k4];by_cases k5:K5 e=5
 ·rw[Uc k5]
  refine JA (J4 net) ?_;unfold Zct;grind
 ·rw[Ud k5]
  refine (Zch (P:=Zct b e) ⟨λ_=>?_,λ_=>rfl⟩);unfold Zct;grind
theorem Zo4 {b:Za} (h:YT b) (e:Zj) (he:sm XO e):Zbx e b=some (tr (Blank e/\Zct b e)):=by
 have hD:=h.ok.1;have hf:=hD.few;have hpl:=Z0 hf;have hc:=Zre h;have hsd:=(JK h.sm).2.1;have e1:Wq (((places (KZ b)).length:Int)-1)=((places (KZ b)).length:Int)-1:=YZ (by omega) (by omega);have e2:Wq (((K8 (K4 b)).length:Int)-1)=((K8 (K4 b)).length:Int)-1:=YZ (by omega) (by omega);obtain ⟨hw,o,ho⟩:=ZCU e he;unfold Zbx;rw[hw,Bq];by_cases hk:1<=K5 e/\K5 e<=5
 ·rw[Uc (ZU hk)]
  rcases ho with ⟨ho1,ho2⟩ | ho
  ·rw[ho1,Bq,ho2,Bq]
   by_cases hB:Blank e
   ·rw[Uc (ZU (.inr (.inr hB))),ZN _ hf,Bq,show Xm (places (KZ b))=some ((places (KZ b)).length:Int) from rfl,Bq,e1,VO,Bq,
     show QJ (K8 (K4 b))=some ((K8 (K4 b)).length:Int) from rfl]
    simp only[Bq,e2];have net:=Zdu (KZ b) (Gs e) hsd;have pc:(if tr (0<=Gc e/\Gc e<=((places (KZ b)).length:Int)-1)=true then (Yr (Gv e) 0 (((K8 (K4 b)).length:Int)-1)).bind λy=>some y else some false) =
      some (tr ((0<=Gc e/\Gc e<=((places (KZ b)).length:Int)-1)/\(0<=Gv e/\Gv e<=((K8 (K4 b)).length:Int)-1))) :=
     ZFY (J4 (VO _ _ _))
    by_cases k1:K5 e=1
    ·rw[Uc k1,Uc k1]
     refine JA pc ?_;unfold Zct;grind
    rw[Ud k1];by_cases k2:K5 e=2
    ·rw[Uc k2]
     refine JA pc ?_;unfold Zct;grind
    rw[Ud k2];by_cases k4:K5 e=4
    ·rw[Uc k4]
     have mv:(if tr (0<=Gc e/\Gc e<=((places (KZ b)).length:Int)-1)=true then (Xf (KZ b) (Gs e)).bind λy=>if y=true then
        (atI (K2 b) (Gs e)).bind λw=>(Xg (K3 w)).bind λn=>(Yr (GF e) 0 (Wq (n-1))).bind λz=>some z else some false else some false) =
       some (tr ((0<=Gc e/\Gc e<=((places (KZ b)).length:Int)-1)/\Zb9 (KZ b) (Gs e)/\∃ w,(K2 b)[(Gs e).toNat]?=some w/\(0<=GF e/\GF e<=((K3 w).length:Int)-1))):=by
      by_cases hp:0<=Gc e/\Gc e<=((places (KZ b)).length:Int)-1
      ·rw[Uc (ZU hp)]
       refine JA (Xc net λhn=>?_) (P:=Zb9 (KZ b) (Gs e)/\∃ w,(K2 b)[(Gs e).toNat]?=some w/\(0<=GF e/\GF e<=((K3 w).length:Int)-1)) ⟨λq=>⟨hp,q⟩,λq=>q.2⟩;obtain ⟨w,hw,ha,_⟩:=ZnJ h hn;rw[ha,Bq,Vf,Bq,ZAQ h e hw];refine JA (J4 (VO _ _ _)) ⟨λq=>⟨w,hw,q⟩,λ⟨w',hw',q⟩=>?_⟩;rw[hw] at hw';injection hw' with hw'
       subst hw';exact q
      ·rw[Ud (λq=>hp ((YS _).1 q)),Yj (λq=>hp q.1)]
     refine JA mv ?_;unfold Zct;grind
    rw[Ud k4];by_cases k5:K5 e=5
    ·rw[Uc k5]
     refine JA (J4 net) ?_;unfold Zct;grind
    ·rw[Ud k5]
     refine (Zch (P:=Blank e/\Zct b e) ⟨λ_=>⟨hB,?_⟩,λ_=>rfl⟩);unfold Zct;grind
   ·rw[Ud (λq=>by rcases (YS _).1 q with q | q | q<;>first | omega | exact hB q),Yj (λq=>hB q.1)]
  ·exact absurd hk ho
 ·rw[Ud (λq=>hk ((YS _).1 q)),Yj (λq=>?_)]
  have:=q.1;unfold Blank at this;omega
theorem ZBV (a b:Zl) (ha:sm QC a):ZhM a b=Zaw a b/\∃ r,Zaw a b=some r:=by
 have s1:(K7 a).length<=1048576:=by have:=(ZBl ha).pins.1;omega
 unfold ZhM Zaw Z9;by_cases k:GE a=GE b
 ·rw[Uc k,Uc k]
  by_cases hl:((K7 a).length:Int)=((K7 b).length:Int)
  ·rw[Uc hl,Uc hl]
   rw[VL (l:=K7 a) (show Len _ by unfold Len;omega) (λk x=>∀ y,(K7 b)[k]?=some y->(Gg x == Gg y)=true) (bad:=false) (good:=true)
    (step:=λv=>ZI (K7 a) (K7 b) v.1)
    (λk x hx hk _=>by
     have hy:(K7 b)[k]?=some (K7 b)[k]:=Ua (by omega);simp only[ZI,Zg6,show (k:Int)<((K7 a).length:Int) from by omega,Uj,Zm,hx,hy,Bq,Option.some.injEq,forall_eq'];constructor
     ·intro hh;rw[Uc hh]
     ·intro hh;rw[Ud hh])
    (λ_=>by simp only[ZI,Uf,Uh]),
    VL (l:=K7 a) (show Len _ by unfold Len;omega) (λk x=>∀ y,(K7 b)[k]?=some y->(Gg x == Gg y)=true) (bad:=false) (good:=true)
    (step:=λv=>ZbJ a b v.1)
    (λk x hx hk _=>by
     have hy:(K7 b)[k]?=some (K7 b)[k]:=Ua (by omega);simp only[ZbJ,show (k:Int)<((K7 a).length:Int) from by omega,Uj,Zm,hx,hy,Bq,Option.some.injEq,forall_eq'];constructor
     ·intro hh;rw[Uc hh]
     ·intro hh;rw[Ud hh])
    (λ_=>by simp only[ZbJ,Uf,Uh])]
   exact ⟨rfl,_,rfl⟩
  ·rw[Ud hl,Ud hl]
   exact ⟨rfl,_,rfl⟩
 ·rw[Ud k,Ud k]
  exact ⟨rfl,_,rfl⟩
theorem ZlJ (d:Zb) (s:List UInt8) (hd:sm Yi d):Zcj d s=some (JB (λx=>decide (Gu x=s)) (K1 d))/\Zcp d s=some (JB (λx=>decide (Gu x=s)) (K1 d)):=by
 have hl:=Qi (Zco hd).1;constructor
 ·unfold Zcj
  rw[Qe hl (λx=>decide (Gu x=s)) (λx _=>rfl),Bq]
 ·unfold Zcp
  refine X5 hl (out:=λi=>i) (λk x hx=>?_) ?_
  ·have hk:=(Ub.1 hx).1
   simp only[Zbc,show (k:Int)<((K1 d).length:Int) from by omega,Uj,Zm,hx,Bq,Uk];split<;>rfl
  ·simp only[Zbc,Uf,Uh]
theorem Zny (d:Zb) (s:List UInt8) (hd:sm Yi d):ZaJ d s=some (JB (λx=>decide (s=x)) (K6 d))/\Zh2 d s=some (JB (λx=>decide (s=x)) (K6 d)):=by
 have hl:=Qi (Zco hd).2.2;constructor
 ·unfold ZaJ
  rw[ZgV hl,Bq]
 ·unfold Zh2 ZkV
  rw[X5 hl (p:=λx=>decide (s=x)) (out:=λi=>i) (λk x hx=>by
   have hk:=(Ub.1 hx).1;simp only[Zey,show (k:Int)<((K6 d).length:Int) from by omega,Uj,Zm,hx,Bq,Uk];by_cases hq:s=x
   ·rw[Uc hq,Uc hq.symm]
   ·rw[Ud hq,Ud (λq=>hq q.symm)]) (by simp only[Zey,Uf,Uh]),Bq]
def ZmE (b:Za):Prop:=∃ (x:Ze) (c:Zl) (w:Zo) (m:Int),
 0<(K1 (KZ b)).length/\(K1 (KZ b))[(K1 (KZ b)).length-1]?=some x/\
 (K8 (K4 b))[(Gx x).toNat]?=some c/\GE c=1/\(K7 c).length=2/\
 (Gb x).length=2/\atI (Gb x) 0=some m/\atI (Gb x) 1=some (((K6 (KZ b)).length:Int)-1)/\m≠((K6 (KZ b)).length:Int)-1/\
 atI (K6 (KZ b)) (((K6 (KZ b)).length:Int)-1)=some (Gu x)/\
 atI (K2 b) (((K6 (KZ b)).length:Int)-1)=some w/\(Gk w).length=1/\(sinks (KZ b) (((K6 (KZ b)).length:Int)-1)).length=1/\(K3 w).length=1/\atI (GD w) 0=some 0
theorem ZB1 {b:Za} (h:YT b):∃ r,JR b=some r/\ZeZ b=some r/\
  (r=true->ZmE b):=by
 have hD:=h.ok.1;have hf:=hD.few;have h14:=hf.insts;have h30:=hD.2.1.2.1;have hwn:=h.ok.2.1;unfold JR ZeZ;by_cases hn:((K1 (KZ b)).length:Int)=0
 ·rw[Uc hn,hn,YZ (by omega) (by omega),Uc (by omega)]
  exact ⟨false,rfl,rfl,λh=>by cases h⟩
 rw[Ud hn,YZ (n:=((K1 (KZ b)).length:Int)-1) (by omega) (by omega),Ud (by omega)];have hlt:(K1 (KZ b)).length-1<(K1 (KZ b)).length:=by omega
 have hx:=Ua hlt;generalize (K1 (KZ b))[(K1 (KZ b)).length-1]=x at hx;have hx2:atI (K1 (KZ b)) (((K1 (KZ b)).length:Int)-1)=some x:=YD (by omega) (by rw[<-hx];congr 1;omega);obtain ⟨⟨c0,c1⟩,⟨c,hc,hnp⟩,hnet⟩:=hD.2.2.1 x (Ue hx);have hc2:atI (K8 (K4 b)) (Gx x)=some c:=YD c0 hc;rw[hx2];simp only[Bq,hc2,show Xh (K6 (KZ b))=some ((K6 (KZ b)).length:Int) from rfl];rw[show VB c=Jg c from rfl];have hbuf:Jg c=some (tr (GE c=1/\(K7 c).length=2)):=by
  unfold Jg;refine JA (Yq λ_=>Zch U3) ?_;omega
 rw[hbuf,Bq,Bq];by_cases hb:GE c=1/\(K7 c).length=2
 ·rw[Uc (ZU hb),Uc (ZU hb)]
  have hl2:(Gb x).length=2:=by rw[hnp];exact hb.2
  have n0:atI (Gb x) 0=some ((Gb x)[0]'(by omega)):=Ua (by omega);have n1:atI (Gb x) 1=some ((Gb x)[1]'(by omega)):=Ua (by omega);have hn1:=hnet ((Gb x)[1]'(by omega)) (List.getElem_mem _);have hpos:1<=(K6 (KZ b)).length:=by have:=hn1.1;have:=hn1.2;omega
  generalize (Gb x)[1]'(by omega)=m1 at n1 hn1;generalize (Gb x)[0]'(by omega)=m0 at n0;have eL:Wq (((K6 (KZ b)).length:Int)-1)=((K6 (KZ b)).length:Int)-1:=YZ (by omega) (by omega);have eW:Wq (((K2 b).length:Int)-1)=((K6 (KZ b)).length:Int)-1:=by rw[YZ (by omega) (by omega)];omega
  have hL:Zb9 (KZ b) (((K6 (KZ b)).length:Int)-1):=⟨by omega,by omega⟩;obtain ⟨w,hw1,hw2,hw3⟩:=ZnJ h hL;have nL:atI (K6 (KZ b)) (((K6 (KZ b)).length:Int)-1)=some ((K6 (KZ b))[(K6 (KZ b)).length-1]'(by omega)):=YD (by omega) (by
   rw[Ua (by omega)];congr 2;omega)
  generalize (K6 (KZ b))[(K6 (KZ b)).length-1]'(by omega)=nm at nL;have hcap:atI (GD w) 0=some ((GD w)[0]'(by have:=hw3.1;have:=hw3.2.2.1;omega)):=Ua (by have:=hw3.1;have:=hw3.2.2.1;omega);generalize (GD w)[0]'(by have:=hw3.1;have:=hw3.2.2.1;omega)=cp at hcap;have hsk:=hw3.2.2.2.1;simp only[eL,eW,n0,n1,nL,hw2,Bq,XZ _ _ hf,Zjx,hcap];rw[<-hsk];by_cases q1:m1=((K6 (KZ b)).length:Int)-1
  ·rw[Uc q1,Uc q1]
   by_cases q2:m0=((K6 (KZ b)).length:Int)-1
   ·rw[Uc q2]
    by_cases q3:nm=Gu x
    ·rw[Uc q3]
     simp only[Uc q2];exact ⟨_,rfl,rfl,λq=>by cases q⟩
    ·rw[Ud q3]
     exact ⟨_,rfl,rfl,λq=>by cases q⟩
   ·rw[Ud q2]
    by_cases q3:nm=Gu x
    ·rw[Uc q3,Uc q3]
     simp only[Ud q2];by_cases q4:((Gk w).length:Int)=1
     ·rw[Uc q4,Uc q4]
      by_cases q5:((K3 w).length:Int)=1
      ·simp only[Uc q5]
       refine ⟨_,rfl,rfl,λq=>?_⟩;have q6:=of_decide_eq_true q;subst q1 q6;exact ⟨x,c,w,m0,by omega,hx,hc,hb.1,hb.2,hl2,n0,n1,q2,by rw[nL,q3],hw2,by omega,by omega,by omega,hcap⟩
      ·simp only[Ud q5]
       exact ⟨_,rfl,rfl,λq=>by cases q⟩
     ·rw[Ud q4,Ud q4]
      exact ⟨_,rfl,rfl,λq=>by cases q⟩
    ·rw[Ud q3,Ud q3]
     exact ⟨_,rfl,rfl,λq=>by cases q⟩
  ·rw[Ud q1,Ud q1]
   exact ⟨_,rfl,rfl,λq=>by cases q⟩
 ·rw[Ud (λq=>hb ((YS _).1 q)),Ud (λq=>hb ((YS _).1 q))]
  exact ⟨false,rfl,rfl,λh=>by cases h⟩
theorem ZwC {b:Za} (h:YT b) {i:Int} (h0:0<=i) (h1:i<=((K8 (K4 b)).length:Int)-1):∃ c,atI (K8 (K4 b)) i=some c/\sm QC c:=by
 have hlt:i.toNat<(K8 (K4 b)).length:=by omega
 have hc:=Ua hlt;exact ⟨_,YD h0 hc,Zas (Ztf (JK h.sm).1) hc⟩
theorem ZuH {b:Za} (h:YT b) {i:Int} (h0:0<=i) (h1:i<=((places (KZ b)).length:Int)-1):∃ p,atI (places (KZ b)) i=some p/\p∈places (KZ b):=by
 have hlt:i.toNat<(places (KZ b)).length:=by omega
 have hc:=Ua hlt;exact ⟨_,YD h0 hc,List.getElem_mem _⟩
theorem ZtO {d:Zb} {p:Pl} (hp:p∈places d) (h0:0<=p.1):∃ x,(K1 d)[p.1.toNat]?=some x/\x∈K1 d:=by
 unfold places at hp;rcases UB.1 hp with hp | hp
 ·obtain ⟨i,z,hi,hz⟩:=X8.1 hp
  unfold YH at hz;obtain ⟨j,n,hj,hn⟩:=X8.1 hz;simp only[Uu] at hn;subst hn;refine ⟨z,?_,Ue hi⟩;show (K1 d)[(((0+i:Nat):Int)).toNat]?=some z;rw[show (((0+i:Nat):Int)).toNat=i by omega];exact hi
 ·obtain ⟨j,q,hj,hq⟩:=X8.1 hp
  simp only[Zba,Uu] at hq;subst hq;have h0:(0:Int)<=-1:=h0;omega
theorem ZmE.two {b:Za} (h:ZmE b):0<(K1 (KZ b)).length/\∃ x,(K1 (KZ b))[(K1 (KZ b)).length-1]?=some x/\(Gb x).length=2:=by
 obtain ⟨x,c,w,m,h1,h2,_,_,_,h3,_⟩:=h;exact ⟨h1,x,h2,h3⟩
def Zih (b:Za) (e:Zj) (p:Pl):Prop:=0<=Gc e/\(places (KZ b))[(Gc e).toNat]?=some p
theorem Zt0 {b:Za} {e:Zj} {p:Pl} (h0:0<=Gc e) (hp:atI (places (KZ b)) (Gc e)=some p):Zih b e p:=by
 refine ⟨h0,?_⟩;rw[show Gc e=(((Gc e).toNat:Nat):Int) by omega,Zm] at hp;exact hp
theorem Zih.mem {b:Za} {e:Zj} {p:Pl} (h:Zih b e p):p∈places (KZ b):=Ue h.2
theorem Zih.at {b:Za} {e:Zj} {p:Pl} (h:Zih b e p):atI (places (KZ b)) (Gc e)=some p:=YD h.1 h.2
def ZDp (b:Za) (e:Zj):Prop :=
 (K5 e=1->∃ (p:Pl) (x:Ze) (c c2:Zl),Zih b e p/\0<=p.1/\p.2.2.2.1=true/\atI (K1 (KZ b)) p.1=some x/\atI (K8 (K4 b)) (Gx x)=some c/\atI (K8 (K4 b)) (Gv e)=some c2/\Zaw c c2=some true)/\
 (K5 e=2->∃ (p:Pl) (c:Zl),Zih b e p/\p.2.2.2.1=false/\atI (K8 (K4 b)) (Gv e)=some c/\GE c=1/\(K7 c).length=2/\Zao (Gh e)=true/\
  JB (λx=>decide (Gu x=Gh e)) (K1 (KZ b))<0/\JB (λx=>decide (Gh e=x)) (K6 (KZ b))<0)/\
 (K5 e=3->ZmE b)/\
 (K5 e=4->∃ p:Pl,Zih b e p/\p.2.2.2.1=false/\p.2.2.1≠Gs e)/\
 (K5 e=5->ZbO (GB e) ((sinks (KZ b) (Gs e)).length:Int))
theorem Zxa {b:Za} (h:YT b) (e:Zj) (he:sm XO e) (hB:Blank e) (hR:Zct b e):∃ r,ZaL e b=some r/\Zdp b e=some r/\
  (r=true->ZDp b e):=by
 have hD:=h.ok.1;have hf:=hD.few;have hsd:=(JK h.sm).2.1;obtain ⟨he1,he2⟩:=ZtT he;unfold ZaL Zdp;rw[ZN _ hf,Yg _ hf,Bq,Bq];by_cases k1:K5 e=1
 ·rw[Uc k1,Uc k1]
  obtain ⟨⟨p0,p1⟩,c0,c1⟩:=hR.1 (.inl k1);obtain ⟨p,hp,hpm⟩:=ZuH h p0 p1;obtain ⟨c2,hc2,hc2s⟩:=ZwC h c0 c1;rw[hp];simp only[Bq,hc2];by_cases q1:(0:Int)<=p.1
  ·rw[Uc q1,Uc q1]
   by_cases q2:p.2.2.2.1=true
   ·rw[Uc q2,Uc q2]
    obtain ⟨x,hx,hxm⟩:=ZtO hpm q1;have hx2:atI (K1 (KZ b)) p.1=some x:=YD q1 hx;obtain ⟨⟨d0,d1⟩,_,_⟩:=hD.2.2.1 x hxm;obtain ⟨c,hc,hcs⟩:=ZwC h d0 d1;obtain ⟨a1,r,a2⟩:=ZBV c c2 hcs;have e1:Gq p=p.1:=rfl;have e2:GL p=p.1:=rfl;simp only[e1,e2,hx2,Bq,hc,a1,a2];exact ⟨r,rfl,rfl,λq=>⟨λ_=>⟨p,x,c,c2,Zt0 p0 hp,q1,q2,hx2,hc,hc2,by rw[a2,q]⟩,λk=>by omega,λk=>by omega,λk=>by omega,λk=>by omega⟩⟩
   ·rw[Ud q2,Ud q2]
    exact ⟨_,rfl,rfl,λq=>by cases q⟩
  ·rw[Ud q1,Ud q1]
   exact ⟨_,rfl,rfl,λq=>by cases q⟩
 rw[Ud k1,Ud k1];by_cases k2:K5 e=2
 ·rw[Uc k2,Uc k2]
  obtain ⟨⟨p0,p1⟩,c0,c1⟩:=hR.1 (.inr k2);obtain ⟨p,hp,hpm⟩:=ZuH h p0 p1;obtain ⟨c2,hc2,hc2s⟩:=ZwC h c0 c1;have hbuf:Jg c2=some (tr (GE c2=1/\(K7 c2).length=2)):=by
   unfold Jg;refine JA (Yq λ_=>Zch U3) ?_;omega
  have hlN:(Gh e).length<=4611686018427387904:=by have:((Gh e).length:Int)<=1048576:=he1;omega
  rw[hp];simp only[Bq,hc2,show VB c2=Jg c2 from rfl,hbuf,Zgn,Zbf _ hlN,(ZlJ _ (Gh e) hsd).1,(ZlJ _ (Gh e) hsd).2,(Zny _ (Gh e) hsd).1,(Zny _ (Gh e) hsd).2];have e1:GS p=p.2.2.2.1:=rfl;have e2:GU p=p.2.2.2.1:=rfl;rw[e1,e2];by_cases q2:p.2.2.2.1=true
  ·simp only[Uc q2]
   exact ⟨_,rfl,rfl,λq=>by cases q⟩
  simp only[Ud q2];by_cases q3:tr (GE c2=1/\(K7 c2).length=2)=true
  ·simp only[Uc q3]
   by_cases q4:Zao (Gh e)=true
   ·simp only[Uc q4]
    split
    ·rename_i q5
     refine ⟨_,rfl,rfl,λq=>⟨λk=>by omega,λ_=>⟨p,c2,Zt0 p0 hp,by simpa using q2,hc2,((YS _).1 q3).1,((YS _).1 q3).2,q4,q5,of_decide_eq_true q⟩,λk=>by omega,λk=>by omega,λk=>by omega⟩⟩
    ·exact ⟨_,rfl,rfl,λq=>by cases q⟩
   ·simp only[Ud q4]
    exact ⟨_,rfl,rfl,λq=>by cases q⟩
  ·simp only[Ud q3]
   exact ⟨_,rfl,rfl,λq=>by cases q⟩
 rw[Ud k2,Ud k2];by_cases k3:K5 e=3
 ·rw[Uc k3,Uc k3]
  obtain ⟨r,a,c,d⟩:=ZB1 h;rw[a,c];exact ⟨r,rfl,rfl,λq=>⟨λk=>by omega,λk=>by omega,λ_=>d q,λk=>by omega,λk=>by omega⟩⟩
 rw[Ud k3,Ud k3];by_cases k4:K5 e=4
 ·rw[Uc k4,Uc k4]
  obtain ⟨⟨p0,p1⟩,_⟩:=hR.2.1 k4;obtain ⟨p,hp,hpm⟩:=ZuH h p0 p1;rw[hp];simp only[Bq];have e1:GS p=p.2.2.2.1:=rfl;have e2:GU p=p.2.2.2.1:=rfl;rw[e1,e2];by_cases q2:p.2.2.2.1=true
  ·simp only[Uc q2]
   exact ⟨_,rfl,rfl,λq=>by cases q⟩
  ·simp only[Ud q2]
   refine ⟨_,rfl,rfl,λq=>⟨λk=>by omega,λk=>by omega,λk=>by omega,λ_=>⟨p,Zt0 p0 hp,by simpa using q2,by simp only[UP,Kj] at q;exact q⟩,λk=>by omega⟩⟩
 rw[Ud k4,Ud k4];have k5:K5 e=5:=by unfold Blank at hB;omega
 obtain ⟨w,hw1,hw2,hw3⟩:=ZnJ h (hR.2.2 k5);rw[hw2,XZ _ _ hf];simp only[Bq,Vf,ZmR _ _ he2,ZjL _ _ he2,hw3.2.2.2.1];exact ⟨_,rfl,rfl,λq=>⟨λk=>by omega,λk=>by omega,λk=>by omega,λk=>by omega,λ_=>(YS _).1 q⟩⟩
structure Zii (b:Za) (e:Zj):Prop where
 blk:YT b
 blank:Blank e
 range:Zct b e
 poss:ZDp b e
 lim:K5 e=2->(K1 (KZ b)).length<=13/\(K6 (KZ b)).length<=29
theorem Zii.last {b:Za} {e:Zj} (h:Zii b e) (k3:K5 e=3):0<(K1 (KZ b)).length/\∃ x,(K1 (KZ b))[(K1 (KZ b)).length-1]?=some x/\(Gb x).length=2:=(h.poss.2.2.1 k3).two
theorem Zp6 {b:Za} (h:YT b) (e:Zj) (he:sm XO e):∃ c,ZdO e b=some c/\Vz b e=some c/\(c=0->Zii b e):=by
 have hB:=h.ok;unfold Vz ZdO;rw[JL b h.sm,Bq,Uc (ZU hB)]
 ·have hwn:=hB.2.1
  rw[Zo4 h e he,Zll e he,Zlm h e he];simp only[Bq];by_cases h1:Blank e
  ·rw[Uc (ZU h1)]
   by_cases h2:Zct b e
   ·rw[Uc (ZU ⟨h1,h2⟩),Uc (ZU h2)]
    obtain ⟨r,a,c,d⟩:=Zxa h e he h1 h2;rw[a,c];simp only[Bq];by_cases hr:r=true
    ·rw[Uc hr,Uc hr]
     have h14:=hB.1.few.insts;have h30:=hB.1.2.1.2.1;by_cases k2:K5 e=2
     ·rw[Uc k2,Uc k2]
      by_cases q1:((K1 (KZ b)).length:Int)=14
      ·rw[Uc q1,Uc q1]
       exact ⟨_,rfl,rfl,λq=>by cases q⟩
      ·rw[Ud q1,Ud q1]
       by_cases q2:((K6 (KZ b)).length:Int)=30
       ·rw[Uc q2,Uc (by omega)]
        exact ⟨_,rfl,rfl,λq=>by cases q⟩
       ·rw[Ud q2,Ud (by omega)]
        exact ⟨_,rfl,rfl,λ_=>⟨h,h1,h2,d hr,λ_=>⟨by omega,by omega⟩⟩⟩
     ·rw[Ud k2,Ud k2]
      exact ⟨_,rfl,rfl,λ_=>⟨h,h1,h2,d hr,λk=>absurd k k2⟩⟩
    ·rw[Ud hr,Ud hr]
     exact ⟨_,rfl,rfl,λq=>by cases q⟩
   ·rw[Ud (λq=>h2 ((YS _).1 q).2),Ud (λq=>h2 ((YS _).1 q))]
    exact ⟨_,rfl,rfl,λq=>by cases q⟩
  ·rw[Ud (λq=>h1 ((YS _).1 q).1),Ud (λq=>h1 ((YS _).1 q))]
   exact ⟨_,rfl,rfl,λq=>by cases q⟩
theorem Zng (b:Za) (e:Zj) (hb:sm ZT b) (he:sm XO e):∃ c,Zfe b e=some c/\Vz b e=some c/\(c=0->Zii b e):=by
 unfold Zfe;rw[ZlH b hb,Bq];by_cases hB:Zm6 b
 ·obtain ⟨c,h1,h2,h3⟩:=Zp6 ⟨hB,hb⟩ e he
  rw[Uc (ZU hB),h1];exact ⟨c,rfl,h2,h3⟩
 ·rw[Ud (λq=>hB ((YS _).1 q))]
  refine ⟨1,rfl,?_,λq=>by cases q⟩;unfold Vz;rw[JL b hb,Bq,Ud (λq=>hB ((YS _).1 q))]
theorem Zbs {α β:Type} {g:Nat->α->β}:∀ (l:List α) (m j:Nat),(cat (λj n=>[g j n]) m l)[j]?=(l[j]?).map (g (m+j))
 | [],m,j=>by simp[cat]
 | x::r,m,0=>by simp[cat]
 | x::r,m,j+1=>by
  simp only[cat,List.singleton_append,U8,Zbs r];rw[show m+1+j=m+(j+1) by omega]
theorem ZaF {α β:Type} {g:Nat->α->β}:∀ (l:List α) (m:Nat),(cat (λj n=>[g j n]) m l).length=l.length
 | [],m=>rfl
 | x::r,m=>by simp only[cat,List.singleton_append,Uz,ZaF r]
theorem Zne {α β:Type} {g:Nat->α->β} (y:α):∀ (l:List α) (m j:Nat),cat (λj n=>[g j n]) m (l.set j y)=(cat (λj n=>[g j n]) m l).set j (g (m+j) y)
 | [],m,j=>by simp[cat]
 | x::r,m,0=>by simp[cat]
 | x::r,m,j+1=>by
  simp only[cat,List.singleton_append,List.set_cons_succ,Zne y r];rw[show m+1+j=m+(j+1) by omega]
theorem Zil {α β:Type} (f:Nat->α->List β) {l:List α} {i:Nat} {x:α} (hx:l[i]?=some x):cat f 0 l=cat f 0 (l.take i)++(f i x++cat f (i+1) (l.drop (i+1))):=by
 have hi:=(Ub.1 hx).1;have e:l=l.take i++(x::l.drop (i+1)):=by
  have hd:l.drop i=x::l.drop (i+1):=by
   rw[Ka hi];congr 1;exact (Ub.1 hx).2
  rw[<-hd,Ki]
 have e2:=UM (cat f 0) e;rw[ZeK] at e2;simp only[cat,Uw,Ui] at e2;rw[show min i l.length=i by omega] at e2;exact e2
theorem ZDY {α β:Type} (f:Nat->α->List β) {l:List α} {i j:Nat} {x y:α} {z:β} (hx:l[i]?=some x) (hj:j<(f i x).length) (hy:f i y=(f i x).set j z):cat f 0 (l.set i y)=(cat f 0 l).set ((cat f 0 (l.take i)).length+j) z:=by
 have hi:=(Ub.1 hx).1;rw[Zil f hx,Zil f (l:=l.set i y) (x:=y) (Ut hi),List.take_set,KG (by rw[Ui];omega),List.drop_set_of_lt (by omega),hy,KT,Ud (by omega),KT,Uc (by omega),Nat.add_sub_cancel_left]
abbrev Zg5 (d:Zb) (i:Nat):Nat:=(cat YH 0 ((K1 d).take i)).length
abbrev YQ (d:Zb):Nat:=(cat YH 0 (K1 d)).length
def Zfw (i:Nat) (x:Ze) (j:Nat) (n:Int):Pl:=((i:Int),(j:Int),n,decide ((j:Int)=Wq (((Gb x).length:Int)-1)),())
theorem Zn8 (i:Nat) (x:Ze):YH i x=cat (λj n=>[Zfw i x j n]) 0 (Gb x):=rfl
theorem ZjW {i:Nat} {x:Ze} {j:Nat} {n:Int} (h:(Gb x)[j]?=some n):(YH i x)[j]?=some (Zfw i x j n):=by
 rw[Zn8,Zbs,h,Uw];rfl
theorem Vx (i:Nat) (x:Ze):(YH i x).length=(Gb x).length:=by rw[Zn8,ZaF]
theorem ZoA (l:List ZL) (m:Nat):cat Zba m l=cat (λj p=>[((-1:Int),(j:Int),GI p,decide (Gz p=1),())]) m l:=rfl
theorem ZvX (l:List ZL) (m:Nat):(cat Zba m l).length=l.length:=by rw[ZoA,ZaF]
theorem ZgT {d:Zb} {i j:Nat} {x:Ze} {n:Int} (hx:(K1 d)[i]?=some x) (hn:(Gb x)[j]?=some n):(places d)[Zg5 d i+j]?=some (Zfw i x j n):=by
 have hj:=(Ub.1 hn).1;unfold places;rw[Zil YH hx,Ul,Uv (by unfold Zg5;omega),show Zg5 d i+j-(cat YH 0 ((K1 d).take i)).length=j by unfold Zg5;omega,Ul,Uq (by rw[Vx];exact hj)];exact ZjW hn
theorem ZuJ {d:Zb} {j:Nat} {q:ZL} (hq:(Ga d)[j]?=some q):(places d)[YQ d+j]?=some ((-1:Int),(j:Int),GI q,decide (Gz q=1),()):=by
 unfold places;rw[Uv (by unfold YQ;omega),show YQ d+j-(cat YH 0 (K1 d)).length=j by unfold YQ;omega,ZoA,Zbs,hq,Uw];rfl
theorem JG {d:Zb} {k:Nat} {p:Pl} (hp:(places d)[k]?=some p) :
  (∃ (i j:Nat) (x:Ze) (n:Int),(K1 d)[i]?=some x/\(Gb x)[j]?=some n/\k=Zg5 d i+j/\p=Zfw i x j n)\/
  (∃ (j:Nat) (q:ZL),(Ga d)[j]?=some q/\k=YQ d+j/\p=((-1:Int),(j:Int),GI q,decide (Gz q=1),())):=by
 by_cases hk:k<YQ d
 ·left
  have h1:(cat YH 0 (K1 d))[k]?=some p:=by
   unfold places at hp
   rwa [Uq (show k<(cat YH 0 (K1 d)).length from hk)] at hp
  have find:∀ (n:Nat),n<=(K1 d).length->k<Zg5 d n->∃ i,i<n/\Zg5 d i<=k/\k<Zg5 d (i+1):=by
   intro n;induction n with
   | zero=>intro _ h;simp[Zg5,cat] at h
   | succ n ih =>
    intro hn hlt;by_cases hq:k<Zg5 d n
    ·obtain ⟨i,a,b,c⟩:=ih (by omega) hq
     exact ⟨i,by omega,b,c⟩
    ·exact ⟨n,by omega,by omega,hlt⟩
  obtain ⟨i,hi,hlo,hhi⟩:=find (K1 d).length (UK _) (by unfold Zg5;rw[Um];exact hk);have hx:(K1 d)[i]?=some (K1 d)[i]:=Ua hi;generalize (K1 d)[i]=x at hx;have hs:Zg5 d (i+1)=Zg5 d i+(Gb x).length:=by
   unfold Zg5;rw[Zcg hx,Ug,Vx]
  have hj:k-Zg5 d i<(Gb x).length:=by omega
  have hn:(Gb x)[k-Zg5 d i]?=some (Gb x)[k-Zg5 d i]:=Ua hj;generalize (Gb x)[k-Zg5 d i]=n at hn;refine ⟨i,k-Zg5 d i,x,n,hx,hn,by omega,?_⟩;have h2:=ZgT hx hn;rw[show Zg5 d i+(k-Zg5 d i)=k by omega,hp] at h2;injection h2
 ·right
  have h1:(cat Zba 0 (Ga d))[k-YQ d]?=some p:=by
   unfold places at hp
   rwa [Uv (show (cat YH 0 (K1 d)).length<=k from Nat.le_of_not_lt hk)] at hp
  rw[ZoA,Zbs,Uw] at h1;cases hq:(Ga d)[k-YQ d]? with
  | none=>rw[hq] at h1;cases h1
  | some q =>
   rw[hq] at h1;injection h1 with h1
   exact ⟨k-YQ d,q,hq,by omega,h1.symm⟩
theorem key_inj {d:Zb} {k k':Nat} {p p':Pl} (hp:(places d)[k]?=some p) (hp':(places d)[k']?=some p') (h1:p.1=p'.1) (h2:p.2.1=p'.2.1):k=k':=by
 rcases JG hp with ⟨i,j,x,n,_,_,e,rfl⟩ | ⟨j,q,_,e,rfl⟩<;>rcases JG hp' with ⟨i',j',x',n',_,_,e',rfl⟩ | ⟨j',q',_,e',rfl⟩
 ·simp only[Zfw] at h1 h2
  have:i=i':=by omega
  have:j=j':=by omega
  subst i' j';omega
 ·simp only[Zfw] at h1;omega
 ·simp only[Zfw] at h1;omega
 ·simp only at h2
  omega
def ZfN (x:Ze) (j:Nat) (n:Int):Ze:=(Gu x,Gx x,List.set (Gb x) j n,())
def setPort (q:ZL) (n:Int):ZL:=(GO q,Gz q,n,())
def conn (d:Zb) (a b:Int) (n:Int):Zb :=
 if a<0 then (K1 d,K6 d,match (Ga d)[b.toNat]? with
  | some q=>(Ga d).set b.toNat (setPort q n)
  | none=>Ga d,())
 else (match (K1 d)[a.toNat]? with
  | some x=>(K1 d).set a.toNat (ZfN x b.toNat n)
  | none=>K1 d,K6 d,Ga d,())
theorem ZBe (i:Nat) (x:Ze) (j:Nat) (n:Int):YH i (ZfN x j n)=(YH i x).set j (Zfw i x j n):=by
 rw[Zn8,Zn8];show cat (λ(j':Nat) (m:Int)=>[Zfw i (ZfN x j n) j' m]) 0 (List.set (Gb x) j n)=_;have:(λ(j':Nat) (m:Int)=>[Zfw i (ZfN x j n) j' m])=λj' m=>[Zfw i x j' m]:=by
  funext j' m;have hl:(Gb (ZfN x j n)).length=(Gb x).length:=Uy;simp only[Zfw,hl]
 rw[this,Zne,Uw]
theorem QE {d:Zb} {k:Nat} {p:Pl} (hp:(places d)[k]?=some p) (n:Int):places (conn d p.1 p.2.1 n)=(places d).set k (p.1,p.2.1,n,p.2.2.2.1,()):=by
 rcases JG hp with ⟨i,j,x,m,hx,hn,e,rfl⟩ | ⟨j,q,hq,e,rfl⟩
 ·have hj:=(Ub.1 hn).1
  have e1:conn d (Zfw i x j m).1 (Zfw i x j m).2.1 n=((K1 d).set i (ZfN x j n),K6 d,Ga d,()):=by
   unfold conn;rw[Ud (by simp only[Zfw];omega)];simp only[Zfw,Up,hx]
  rw[e1];unfold places;show cat YH 0 ((K1 d).set i (ZfN x j n))++cat Zba 0 (Ga d)=_;have hlt:k<(cat YH 0 (K1 d)).length:=by
   rw[Zil YH hx,Ug,Ug,Vx];unfold Zg5 at e;omega
  rw[ZDY YH hx (j:=j) (z:=Zfw i x j n) (by rw[Vx];exact hj) (ZBe i x j n),KT,Uc hlt,e];rfl
 ·have e1:conn d (-1) (j:Int) n=(K1 d,K6 d,(Ga d).set j (setPort q n),()):=by
   unfold conn;rw[Uc (by omega)];simp only[Up,hq]
  show places (conn d (-1) (j:Int) n)=_;rw[e1];unfold places;show cat YH 0 (K1 d)++cat Zba 0 ((Ga d).set j (setPort q n))=_;rw[KT,Ud (by unfold YQ at e;omega),ZoA,Zne,Uw,e,show YQ d+j-(cat YH 0 (K1 d)).length=j by unfold YQ;omega,ZoA];rfl
def nth (pl:List Pl) (net:Int) (k:Nat):Nat:=(cat (Ji net) 0 (pl.take k)).length
theorem Zl1 {net:Int} {k:Nat} {p:Pl} (h:¬(p.2.2.1=net/\p.2.2.2.1=false)):Ji net k p=[]:=by
 unfold Ji;split
 ·split
  ·rfl
  ·rename_i h1 h2;exact absurd ⟨h1,by simpa using h2⟩ h
 ·rfl
theorem Zl2 {net:Int} {k:Nat} {p:Pl} (h1:p.2.2.1=net) (h2:p.2.2.2.1=false):Ji net k p=[(k:Int)]:=by
 unfold Ji;rw[Uc h1,Ud (by rw[h2];simp)]
theorem ZoJ {pl:List Pl} {net:Int} {k:Nat} {p:Pl} (hp:pl[k]?=some p) (h1:p.2.2.1=net) (h2:p.2.2.2.1=false):(cat (Ji net) 0 pl)[nth pl net k]?=some (k:Int):=by
 rw[Zil (Ji net) hp,Zl2 h1 h2];unfold nth;rw[Uv (UK _),KD];rfl
theorem ZBi {pl:List Pl} {net:Int} {v:Int} (hv:v∈cat (Ji net) 0 pl):∃ (k:Nat) (p:Pl),v=(k:Int)/\pl[k]?=some p/\p.2.2.1=net/\p.2.2.2.1=false:=by
 obtain ⟨k,p,hp,hv⟩:=X8.1 hv;by_cases h:p.2.2.1=net/\p.2.2.2.1=false
 ·rw[Zl2 h.1 h.2] at hv
  simp only[Uu] at hv;exact ⟨k,p,by rw[hv];simp,hp,h.1,h.2⟩
 ·rw[Zl1 h] at hv
  cases hv
theorem ZAS {pl:List Pl} {net:Int} {k:Nat} {p:Pl} (hp:pl[k]?=some p) (h1:p.2.2.1=net) (h2:p.2.2.2.1=false):nth pl net k<(cat (Ji net) 0 pl).length:=(Ub.1 (ZoJ hp h1 h2)).1
def Xp (b:Za) (k:Nat):Int:=match (places (KZ b))[k]? with
 | some p=>if p.2.2.2.1=true then 0 else match (K2 b)[p.2.2.1.toNat]? with
  | some w=>((Gk w)[nth (places (KZ b)) p.2.2.1 k]?).getD 0
  | none=>0
 | none=>0
def Zf8 (w:Zo) (l:List Int):Zo:=(K3 w,Gy w,GD w,l,())
def wired (pl:List Pl) (ws:List Zo) (nd:Nat->Int):List Zo:=cat (λv w=>[Zf8 w ((cat (Ji (v:Int)) 0 pl).map (λk=>nd k.toNat))]) 0 ws
theorem ZfI (pl:List Pl) (ws:List Zo) (nd:Nat->Int) (v:Nat):(wired pl ws nd)[v]?=(ws[v]?).map (λw=>Zf8 w ((cat (Ji (v:Int)) 0 pl).map (λk=>nd k.toNat))):=by
 unfold wired;rw[Zbs,Uw]
theorem Zkj (pl:List Pl) (ws:List Zo) (nd:Nat->Int):(wired pl ws nd).length=ws.length:=ZaF _ _
def ZiU (pl:List Pl) (ws:List Zo) (nd:Nat->Int) (k:Nat):List Zo:=wired (pl.take k) ws nd
theorem Zws {pl:List Pl} {ws:List Zo} {nd:Nat->Int} {k:Nat} {p:Pl} {w:Zo} (hp:pl[k]?=some p) (h2:p.2.2.2.1=false) (h0:0<=p.2.2.1) (hw:ws[p.2.2.1.toNat]?=some w) :
  (ZiU pl ws nd k)[p.2.2.1.toNat]?=some (Zf8 w ((cat (Ji p.2.2.1) 0 (pl.take k)).map (λk=>nd k.toNat)))/\
  (ZiU pl ws nd k).set p.2.2.1.toNat (Zf8 w ((cat (Ji p.2.2.1) 0 (pl.take k)).map (λk=>nd k.toNat)++[nd k]))=ZiU pl ws nd (k+1):=by
 have hk:=(Ub.1 hp).1;have hlt:=(Ub.1 hw).1;unfold ZiU;constructor
 ·rw[ZfI,hw,show ((p.2.2.1.toNat:Nat):Int)=p.2.2.1 by omega]
  rfl
 ·apply UD
  intro v;rw[UQ,ZfI,ZfI];have hs:∀ net:Int,cat (Ji net) 0 (pl.take (k+1))=cat (Ji net) 0 (pl.take k)++Ji net k p:=λnet=>Zcg hp;split
  ·rename_i e
   subst e;rw[Zkj,Uc hlt,hw,hs,show ((p.2.2.1.toNat:Nat):Int)=p.2.2.1 by omega,Zl2 rfl h2,UV];simp only[U5,Kw,Up,UY]
  ·rename_i e
   congr 1;funext w';congr 1;rw[hs,Zl1 (λq=>e (by have:=q.1;omega)),Uo]
theorem Zwr {pl:List Pl} {ws:List Zo} {nd:Nat->Int} {k:Nat} {p:Pl} (hp:pl[k]?=some p) (h2:p.2.2.2.1=true):ZiU pl ws nd (k+1)=ZiU pl ws nd k:=by
 unfold ZiU;apply UD;intro v;rw[ZfI,ZfI];congr 1;funext w';congr 1;rw[Zcg hp,Zl1 (λq=>by rw[h2] at q;cases q.2),Uo]
abbrev Key:Ty:=.pair (.int .i64) (.pair (.int .i64) .unit)
theorem Zur (x y:Key.den):keq Key x y=true<->x=y:=by
 obtain ⟨a,b,⟨⟩⟩:=x;obtain ⟨c,d,⟨⟩⟩:=y;simp[keq]
theorem Zr5 {k v:Ty} (hk:∀ x y:k.den,keq k x y=true<->x=y) (x z:k.den) (y:v.den):∀ (d:List (k.den×v.den)),Zmh k v (Zp8 k v d x y) z=if keq k z x=true then some y else Zmh k v d z
 | []=>by simp only[Zp8,Zmh]
 | e::l=>by
  by_cases h1:keq k x e.1=true
  ·simp only[Zp8,Uc h1,Zmh]
   by_cases h2:keq k z x=true
   ·simp only[Uc h2]
   ·have h3:¬keq k z e.1=true:=λq=>h2 ((hk _ _).2 (((hk _ _).1 q).trans ((hk _ _).1 h1).symm))
    simp only[Ud h2,Ud h3]
  ·simp only[Zp8,Ud h1,Zmh]
   by_cases h3:keq k z e.1=true
   ·have h2:¬keq k z x=true:=λq=>h1 ((hk _ _).2 (((hk _ _).1 q).symm.trans ((hk _ _).1 h3)))
    simp only[Uc h3,Ud h2]
   ·simp only[Ud h3,Zr5 hk x z y l]
theorem Zr6 {v:Ty} (d:List (Key.den×v.den)) (x:Key.den) (y:v.den):Zmh Key v (Zp8 Key v d x y) x=some y:=by
 rw[Zr5 Zur,Uc ((Zur _ _).2 rfl)]
theorem ZpB {v:Ty} (d:List (Key.den×v.den)) {x z:Key.den} (y:v.den) (h:z≠x):Zmh Key v (Zp8 Key v d x y) z=Zmh Key v d z:=by
 rw[Zr5 Zur,Ud (λq=>h ((Zur _ _).1 q))]
abbrev Zm7:=List (Key.den×(Ty.int .i64).den)
def Zx7 (p:Pl):Key.den:=(p.1,p.2.1,())
def Maps (nodes:Zm7) (pl:List Pl) (nd:Nat->Int):Prop:=∀ (k:Nat) (p:Pl),pl[k]?=some p->p.2.2.2.1=false->Zmh Key (.int .i64) nodes (Zx7 p)=some (nd k)
theorem Zx8 {d:Zb} {k k':Nat} {p p':Pl} (hp:(places d)[k]?=some p) (hp':(places d)[k']?=some p') (h:Zx7 p=Zx7 p'):k=k':=by
 unfold Zx7 at h;injection h with h1 h2
 injection h2 with h2 _
 exact key_inj hp hp' h1 h2
theorem Maps.put {nodes:Zm7} {d:Zb} {nd:Nat->Int} (h:Maps nodes (places d) nd) {k0:Nat} {p0:Pl} (hp0:(places d)[k0]?=some p0) (v:Int):Maps (Zp8 Key (.int .i64) nodes (Zx7 p0) v) (places d) (λk=>if k=k0 then v else nd k):=by
 intro k p hp hd;by_cases e:k=k0
 ·subst e
  rw[hp0] at hp;injection hp with hp
  subst hp;simp only[Uj];exact Zr6 _ _ _
 ·simp only[Ud e]
  rw[ZpB _ _ (λq=>e (Zx8 hp hp0 q))];exact h k p hp hd
theorem Maps.set {nodes:Zm7} {pl:List Pl} {nd:Nat->Int} (h:Maps nodes pl nd) {k0:Nat} {p0:Pl} (hp0:pl[k0]?=some p0) (n:Int):Maps nodes (pl.set k0 (p0.1,p0.2.1,n,p0.2.2.2.1,())) nd:=by
 intro k p hp hd;by_cases e:k0=k
 ·subst e
  rw[Ut (Ub.1 hp0).1] at hp;injection hp with hp
  subst hp;exact h k0 p0 hp0 hd
 ·rw[UH e] at hp
  exact h k p hp hd
def addInst (d:Zb) (x:Ze) (s:List UInt8):Zb:=(K1 d++[x],K6 d++[s],Ga d,())
theorem Zif (d:Zb) (x:Ze) (s:List UInt8):places (addInst d x s)=cat YH 0 (K1 d)++YH (K1 d).length x++cat Zba 0 (Ga d):=by
 unfold places addInst;show cat YH 0 (K1 d++[x])++_=_;rw[ZeK,Uw];simp only[cat,Uo]
theorem Zvk {d:Zb} {x:Ze} {s:List UInt8} {k:Nat} (hk:k<YQ d):(places (addInst d x s))[k]?=(places d)[k]?:=by
 rw[Zif,Ul,Uq hk];unfold places;rw[Uq hk]
theorem add_mid {d:Zb} {x:Ze} {s:List UInt8} {j:Nat} (hj:j<(Gb x).length):(places (addInst d x s))[YQ d+j]?=(YH (K1 d).length x)[j]?:=by
 rw[Zif,Ul,Uv (by unfold YQ;omega),show YQ d+j-(cat YH 0 (K1 d)).length=j by unfold YQ;omega,Uq (by rw[Vx];exact hj)]
theorem Zvj {d:Zb} {x:Ze} {s:List UInt8} {k:Nat} (hk:YQ d<=k):(places (addInst d x s))[k+(Gb x).length]?=(places d)[k]?:=by
 have h1:(cat YH 0 (K1 d)).length<=k:=hk;rw[Zif,Uv (by rw[Ug,Vx];omega),Ug,Vx];unfold places;rw[Uv h1];congr 1;omega
def Zw4 (nd:Nat->Int) (m:Nat) (v:Int) (k:Nat):Int:=if k<m then nd k else if k=m then v else if k=m+1 then 0 else nd (k-2)
theorem Maps.add {nodes:Zm7} {d:Zb} {nd:Nat->Int} (h:Maps nodes (places d) nd) {x:Ze} {s:List UInt8} (h2:(Gb x).length=2) (hi:(K1 d).length<=1048576) (v:Int) :
  Maps (Zp8 Key (.int .i64) nodes (((K1 d).length:Int),0,()) v) (places (addInst d x s)) (Zw4 nd (YQ d) v):=by
 intro k p hp hd;have other:∀ (k':Nat),(places d)[k']?=some p->Zmh Key (.int .i64) (Zp8 Key (.int .i64) nodes (((K1 d).length:Int),0,()) v) (Zx7 p)=Zmh Key (.int .i64) nodes (Zx7 p):=by
  intro k' hp';refine ZpB _ _ (λq=>?_);unfold Zx7 at q;injection q with q1 _
  rcases JG hp' with ⟨i,j,y,n,hy,_,_,rfl⟩ | ⟨j,q',_,_,rfl⟩
  ·have:=(Ub.1 hy).1
   simp only[Zfw] at q1;omega
  ·simp only at q1
   omega
 unfold Zw4;by_cases k1:k<YQ d
 ·rw[Uc k1]
  rw[Zvk k1] at hp;rw[other k hp];exact h k p hp hd
 ·rw[Ud k1]
  by_cases k2:k=YQ d
  ·rw[Uc k2]
   have h3:=add_mid (d:=d) (x:=x) (s:=s) (j:=0) (by omega);rw[Kd,<-k2,hp] at h3;have h4:(Gb x)[0]?=some (Gb x)[0]:=Ua (by omega);rw[ZjW h4] at h3;injection h3 with h3
   rw[h3];exact Zr6 _ _ _
  ·rw[Ud k2]
   by_cases k3:k=YQ d+1
   ·-- it drives
    exfalso;have h3:=add_mid (d:=d) (x:=x) (s:=s) (j:=1) (by omega);rw[<-k3,hp] at h3;have h4:(Gb x)[1]?=some (Gb x)[1]:=Ua (by omega);rw[ZjW h4] at h3;injection h3 with h3
    rw[h3] at hd;simp only[Zfw,h2,Kj] at hd;exact hd (by rw[YZ (by omega) (by omega)];rfl)
   ·rw[Ud k3]
    have h3:=Zvj (d:=d) (x:=x) (s:=s) (k:=k-2) (by omega);rw[h2,show k-2+2=k by omega,hp] at h3;rw[other (k-2) h3.symm];exact h (k-2) p h3.symm hd
def Qt (d:Zb):Zb:=((K1 d).take ((K1 d).length-1),(K6 d).take ((K6 d).length-1),Ga d,())
theorem ZwG {d:Zb} {x:Ze} (hn:0<(K1 d).length) (hx:(K1 d)[(K1 d).length-1]?=some x):K1 d=K1 (Qt d)++[x]:=by
 show K1 d=(K1 d).take ((K1 d).length-1)++[x];rw[<-Yu hx,show (K1 d).length-1+1=(K1 d).length by omega,Um]
theorem Zmk {d:Zb} {x:Ze} {s:List UInt8} (hn:0<(K1 d).length) (hx:(K1 d)[(K1 d).length-1]?=some x):places d=places (addInst (Qt d) x s):=by
 unfold places;show cat YH 0 (K1 d)++cat Zba 0 (Ga d)=cat YH 0 (K1 (Qt d)++[x])++cat Zba 0 (Ga d);rw[<-ZwG hn hx]
def ZvQ (nd:Nat->Int) (m:Nat) (k:Nat):Int:=if k<m then nd k else nd (k+2)
theorem Maps.cut {nodes:Zm7} {d:Zb} {nd:Nat->Int} (h:Maps nodes (places d) nd) {x:Ze} (hn:0<(K1 d).length) (hx:(K1 d)[(K1 d).length-1]?=some x) (h2:(Gb x).length=2) :
  Maps nodes (places (Qt d)) (ZvQ nd (YQ (Qt d))):=by
 rw[Zmk (s:=[]) hn hx] at h;intro k p hp hd;unfold ZvQ;by_cases k1:k<YQ (Qt d)
 ·rw[Uc k1]
  exact h k p (by rw[Zvk k1];exact hp) hd
 ·rw[Ud k1]
  have h3:=Zvj (d:=Qt d) (x:=x) (s:=[]) (k:=k) (by omega);rw[h2,hp] at h3;exact h (k+2) p h3 hd
def ZbG (pl:List Pl) (f:Nat->Int):Nat->Zm7
 | 0=>[]
 | k+1=>match pl[k]? with
  | some p=>if p.2.2.2.1=true then ZbG pl f k else Zp8 Key (.int .i64) (ZbG pl f k) (Zx7 p) (f k)
  | none=>ZbG pl f k
theorem Zp9 {pl:List Pl} {f:Nat->Int} {k:Nat} {p:Pl} (hp:pl[k]?=some p) (h:p.2.2.2.1=true):ZbG pl f (k+1)=ZbG pl f k:=by
 simp only[ZbG,hp,h,Uj]
theorem Zsa {pl:List Pl} {f:Nat->Int} {k:Nat} {p:Pl} (hp:pl[k]?=some p) (h:¬p.2.2.2.1=true):ZbG pl f (k+1)=Zp8 Key (.int .i64) (ZbG pl f k) (Zx7 p) (f k):=by
 simp only[ZbG,hp,h,Uh];rfl
theorem ZlW (d:Zb) (f:Nat->Int):∀ (k:Nat),k<=(places d).length->∀ (j:Nat) (p:Pl),j<k->(places d)[j]?=some p->p.2.2.2.1=false->Zmh Key (.int .i64) (ZbG (places d) f k) (Zx7 p)=some (f j)
 | 0,_,j,p,hj,_,_=>by omega
 | k+1,hk,j,p,hj,hp,hd=>by
  have hq:(places d)[k]?=some (places d)[k]:=Ua (by omega);generalize (places d)[k]=q at hq;by_cases hqd:q.2.2.2.1=true
  ·rw[Zp9 hq hqd]
   refine ZlW d f k (by omega) j p ?_ hp hd;by_cases e:j=k
   ·subst e
    rw[hp] at hq;injection hq with hq
    subst hq;rw[hqd] at hd;cases hd
   ·omega
  ·rw[Zsa hq hqd]
   by_cases e:j=k
   ·subst e
    rw[hp] at hq;injection hq with hq
    subst hq;exact Zr6 _ _ _
   ·rw[ZpB _ _ (λh=>e (Zx8 hp hq h))]
    exact ZlW d f k (by omega) j p (by omega) hp hd
theorem Zmi (d:Zb) (f:Nat->Int):Maps (ZbG (places d) f (places d).length) (places d) f:=λk p hp hd=>ZlW d f _ (UK _) k p (Ub.1 hp).1 hp hd
def Zr8 (l:List Int) (k:Nat):Int:=(l[k]?).getD 0
theorem ZuB {l:List Int} {i:Nat} {v:Int} (hi:i<l.length) (k:Nat):Zr8 (l.set i v) k=if k=i then v else Zr8 l k:=by
 unfold Zr8;rw[UQ];by_cases e:i=k
 ·subst e;rw[Uc rfl,Uc hi,Uc rfl];rfl
 ·rw[Ud e,Ud (λq=>e q.symm)]
theorem ZCN {l:List Int} {m:Nat} (hm:m<=l.length) (v:Int) (k:Nat):Zr8 (l.take m++[v,0]++l.drop m) k=Zw4 (Zr8 l) m v k:=by
 unfold Zr8 Zw4;have hl:(l.take m).length=m:=by rw[Ui];omega
 by_cases k1:k<m
 ·rw[Uc k1,Ul,Uq (by omega),UA,Uc k1]
 ·rw[Ud k1]
  by_cases k2:k=m
  ·rw[Uc k2,Ul,Uv (by omega),hl,k2,KD];rfl
  ·rw[Ud k2]
   by_cases k3:k=m+1
   ·rw[Uc k3,Ul,Uv (by omega),hl,k3,show m+1-m=1 by omega];rfl
   ·rw[Ud k3,Uv (by rw[Ug,hl,Uz,Un];omega),Ug,hl,Uz,Un,Kb]
    congr 2;omega
theorem ZCM {l:List Int} {m:Nat} (hm:m+2<=l.length) (k:Nat):Zr8 (l.take m++l.drop (m+2)) k=ZvQ (Zr8 l) m k:=by
 unfold Zr8 ZvQ;have hl:(l.take m).length=m:=by rw[Ui];omega
 by_cases k1:k<m
 ·rw[Uc k1,Uq (by omega),UA,Uc k1]
 ·rw[Ud k1,Uv (by omega),hl,Kb]
  congr 2;omega
theorem ZCa {d:Zb} {x:Ze} {s:List UInt8} {a b n:Int} (ha:a<((K1 d).length:Int)):conn (addInst d x s) a b n=addInst (conn d a b n) x s:=by
 unfold conn;by_cases h:a<0
 ·rw[Uc h,Uc h];rfl
 ·rw[Ud h,Ud h]
  have hlt:a.toNat<(K1 d).length:=by omega
  have hy:=Ua hlt;generalize (K1 d)[a.toNat]=y at hy;have e:(K1 (addInst d x s))[a.toNat]?=some y:=by
   show (K1 d++[x])[a.toNat]?=some y;rw[Uq hlt];exact hy
  rw[e,hy];have e2:List.set (K1 (addInst d x s)) a.toNat (ZfN y b.toNat n)=(K1 d).set a.toNat (ZfN y b.toNat n)++[x]:=by
   show List.set (K1 d++[x]) a.toNat _=_;rw[KT,Uc hlt]
  show (List.set (K1 (addInst d x s)) a.toNat (ZfN y b.toNat n),_)=_;rw[e2];rfl
theorem XC {d:Zb} {a b n:Int}:(K1 (conn d a b n)).length=(K1 d).length:=by
 unfold conn;split
 ·rfl
 ·show (match (K1 d)[a.toNat]? with | some x=>(K1 d).set a.toNat (ZfN x b.toNat n) | none=>K1 d).length=_
  split
  ·rw[Uy]
  ·rfl
theorem VF {d:Zb} {a b n:Int}:K6 (conn d a b n)=K6 d:=by
 unfold conn;split<;>rfl
theorem ZjT {d:Zb} {a b n:Int}:(Ga (conn d a b n)).length=(Ga d).length:=by
 unfold conn;split
 ·show (match (Ga d)[b.toNat]? with | some x=>(Ga d).set b.toNat (setPort x n) | none=>Ga d).length=_
  split
  ·rw[Uy]
  ·rfl
 ·rfl
theorem Zim {d:Zb} {a b n:Int} {i:Nat} {y:Ze} (hy:(K1 (conn d a b n))[i]?=some y):∃ x,(K1 d)[i]?=some x/\Gu y=Gu x/\Gx y=Gx x/\(Gb y).length=(Gb x).length/\((i:Int)≠a->y=x)/\∀ m∈Gb y,m∈Gb x\/m=n:=by
 unfold conn at hy;split at hy
 ·exact ⟨y,hy,rfl,rfl,rfl,λ_=>rfl,λm hm=>.inl hm⟩
 ·rename_i h
  have hy:(match (K1 d)[a.toNat]? with | some x=>(K1 d).set a.toNat (ZfN x b.toNat n) | none=>K1 d)[i]?=some y:=hy
  split at hy
  ·rename_i x hx
   rw[UQ] at hy;split at hy
   ·rename_i e
    split at hy
    ·injection hy with hy
     subst hy;refine ⟨x,by rw[<-e];exact hx,rfl,rfl,Uy,λq=>absurd (by omega) q,λm hm=>?_⟩;rcases U4 hm with hm | hm
     ·exact .inl hm
     ·exact .inr hm
    ·cases hy
   ·exact ⟨y,hy,rfl,rfl,rfl,λ_=>rfl,λm hm=>.inl hm⟩
  ·exact ⟨y,hy,rfl,rfl,rfl,λ_=>rfl,λm hm=>.inl hm⟩
theorem Few.conn {d:Zb} (h:Few d) (a b n:Int):Few (conn d a b n):=by
 refine ⟨by rw[XC];exact h.insts,by rw[ZjT];exact h.ports,λy hy=>?_⟩;obtain ⟨i,hi⟩:=U1 hy;obtain ⟨x,hx,_,_,hl,_⟩:=Zim hi;rw[hl];exact h.nets x (Ue hx)
theorem Few.add {d:Zb} (h:Few d) (h13:(K1 d).length<=13) {x:Ze} (hx:(Gb x).length<=5) (s:List UInt8):Few (addInst d x s):=by
 refine ⟨?_,h.ports,λy hy=>?_⟩
 ·show (K1 d++[x]).length<=14
  rw[Ug,Un];omega
 ·rcases UB.1 (show y∈K1 d++[x] from hy) with hy | hy
  ·exact h.nets y hy
  ·rw[Uu] at hy
   subst hy;exact hx
theorem Few.cut {d:Zb} (h:Few d):Few (Qt d):=by
 refine ⟨?_,h.ports,λy hy=>h.nets y (List.mem_of_mem_take (show y∈(K1 d).take _ from hy))⟩;show ((K1 d).take _).length<=14;rw[Ui];have:=h.insts;omega
def ZmF (pl:List Pl) (n:Nat):Prop:=∀ p∈pl,p.2.2.2.1=false->0<=p.2.2.1/\p.2.2.1<(n:Int)
theorem ZmF.set {pl:List Pl} {n:Nat} (h:ZmF pl n) {k0:Nat} {p0:Pl} {m:Int} (h0:0<=m) (h1:m<(n:Int)):ZmF (pl.set k0 (p0.1,p0.2.1,m,p0.2.2.2.1,())) n:=by
 intro p hp hd;rcases U4 hp with hp | hp
 ·exact h p hp hd
 ·subst hp;exact ⟨h0,h1⟩
def swapped (b:Za) (i:Int) (c:Int):Za:=(K4 b,(match (K1 (KZ b))[i.toNat]? with
 | some x=>(K1 (KZ b)).set i.toNat (Gu x,c,Gb x,())
 | none=>K1 (KZ b),K6 (KZ b),Ga (KZ b),()),K2 b,())
def mvD (b:Za) (p:Pl) (n:Int):Zb:=conn (KZ b) p.1 p.2.1 n
def mvN (b:Za) (k:Nat) (v:Int) (j:Nat):Int:=if j=k then v else Xp b j
def moved (b:Za) (k:Nat) (p:Pl) (n v:Int):Za:=(K4 b,mvD b p n,wired (places (mvD b p n)) (K2 b) (mvN b k v),())
abbrev ZyN:Zo:=([-1],[0],[0],[],())
def Ztv (b:Za) (e:Zj) (p:Pl):Ze:=(Gh e,Gv e,[p.2.2.1,((K6 (KZ b)).length:Int)],())
def Zvc (b:Za) (e:Zj) (p:Pl):Zb:=addInst (conn (KZ b) p.1 p.2.1 ((K6 (KZ b)).length:Int)) (Ztv b e p) (Gh e)
def ZxF (b:Za) (k:Nat):Nat:=if k<YQ (KZ b) then k else k+2
def ZG8 (b:Za) (k:Nat) (j:Nat):Int:=if j=ZxF b k then 0 else Zw4 (Xp b) (YQ (KZ b)) (Xp b k) j
def buffered (b:Za) (e:Zj) (k:Nat) (p:Pl):Za:=(K4 b,Zvc b e p,wired (places (Zvc b e p)) (K2 b++[ZyN]) (ZG8 b k),())
def unD (b:Za) (p:Pl) (m:Int):Zb:=Qt (conn (KZ b) p.1 p.2.1 m)
def unN (b:Za) (k:Nat):Nat->Int:=ZvQ (mvN b k (Xp b (YQ (KZ b)-2))) (YQ (KZ b)-2)
def ZpU (b:Za) (k:Nat) (p:Pl) (m:Int):Za:=(K4 b,unD b p m,wired (places (unD b p m)) ((K2 b).take ((K2 b).length-1)) (unN b k),())
def ZDH (b:Za) (n:Int) (w:Zo):Za:=(K4 b,KZ b,(K2 b).set n.toNat w,())
theorem Zcn {α:Type} {l:List α} {k:Nat} {x:α} (hx:l[k]?=some x):l.set k x=l:=by
 apply UD;intro j;rw[UQ];split
 ·rename_i e;subst e
  rw[Uc (Ub.1 hx).1,hx]
 ·rfl
theorem Zb0 (l:List Int) (h:l.length<=1048576):ZF l=some l:=by
 unfold ZF;rw[Zg (by rw[Ux];omega)];rfl
theorem Zfu (l:List Int) (h:l.length<=1048576):XF l=some l:=by
 unfold XF;rw[Zg (by rw[Ux];omega)];rfl
theorem Zi5 (w:Zo) (hw:sm QD w):ZcC w=some w:=by
 obtain ⟨a1,a2,a3,a4⟩:=Zm4 hw;unfold ZcC;rw[Zb0 _ (Zu a1),Bq,Zb0 _ (Zu a2),Bq,Zb0 _ (Zu a3),Bq,Zb0 _ (Zu a4),Bq]
theorem Zl8 (w:Zo) (hw:sm QD w):ZcW w=some w:=by
 obtain ⟨a1,a2,a3,a4⟩:=Zm4 hw;unfold ZcW;rw[Zfu _ (Zu a1),Bq,Zfu _ (Zu a2),Bq,Zfu _ (Zu a3),Bq,Zfu _ (Zu a4),Bq]
theorem Zmt (d:Zb) (hd:sm Yi d):Js d=some d:=by
 obtain ⟨s1,s2,s3⟩:=Zco hd;have l1:=Zu s1;have l2:=Zu s2;have l3:=Zu s3;unfold Js XI JI Q6;rw[Zg (by rw[Ux];omega),Bq,Zg (by rw[Ux];omega),Bq,Zg (by rw[Ux];omega),Bq];simp only[Us];refine YK (l:=K1 d) (λk=>((k:Int),(K1 d,(k:Int)),())) (λk x hx hk=>?_) ?_
 ·have hx2:=Zb0 (Gb x) (Zu (Zm3 (Zas s1 hx)).2)
  simp only[QU,show (k:Int)<((K1 d).length:Int) by omega,Uj,Zm,hx,Bq,Int.le_refl,hx2,Zg trivial,Y4 (show k<=1048576 by omega),Up];rw[show List.set (K1 d) k (Gu x,Gx x,Gb x,())=K1 d from Zcn hx];rfl
 ·simp only[QU,Uf,Uh,Zg trivial]
theorem ZiC (l:List Zw) (hl:sm (.sl Xa) l):ZbT l=some l:=by
 have h1:=Zu hl;unfold ZbT;have:=YK (l:=l) (λk=>(l.take k,(k:Int),())) (step:=λv=>JX l v.1 v.2.1) (good:=l) (λk x hx hk=>by
  have hs:sm Xa x:=Zas hl hx;have e1:=Zb0 (GM x) (Zu (t:=.int .i64) hs.1);have e2:=Zb0 (Gt x) (Zu (t:=.int .i64) hs.2.1);have e3:=Zb0 (Gr x) (Zu (t:=.int .i64) hs.2.2.1);have hg:((l.take k).length+[(GM x,Gt x,Gr x,())].length)*72<=140737488355328:=by rw[Ui,Un];omega
  simp only[JX,show (k:Int)<(l.length:Int) by omega,Uj,Zm,hx,Bq,e1,e2,e3,Zg hg,Y4 (show k<=1048576 by omega)];rw[Yu hx]) (by
  simp only[JX,Uf,Uh,Um])
 simpa using this
theorem Zmv (a:Zp) (ha:sm YV a):Jv a=some a:=by
 have hc:=Ztf ha;have h1:=Zu hc;unfold Jv;have:=YK (l:=K8 a) (λk=>((k:Int),(K8 a).take k,())) (step:=λv=>X4 a v.1 v.2.1) (good:=a) (λk x hx hk=>by
  have hs:sm QC x:=Zas hc hx;have p1:sm (.sl Ze1) (K7 x):=hs.2.2.1;have p2:sm (.sl ZfO) (Gj x):=hs.2.2.2.1;have p3:sm (.sl (.int .i64)) (GH x):=hs.2.2.2.2.1;have l1:=Zu p1;have l2:=Zu p2;have l3:=Zu p3;simp only[X4,show (k:Int)<((K8 a).length:Int) by omega,Uj,Zm,hx,Bq];unfold Vt Vs;rw[Zg (by rw[Ux];omega),Bq,Zb0 _ l3,Bq,Zg (by rw[Ux];omega),Bq];simp only[Us];have hg:∀ y:Zl,(((K8 a).take k).length+[y].length)*112<=140737488355328:=λy=>by rw[Ui,Un];omega
  refine YK (l:=Gj x) (λj=>((j:Int),(Gj x,(j:Int)),())) (λj y hy hj=>?_) ?_
  ·obtain ⟨q1,q2⟩:=ZC8 (Zas p2 hy)
   simp only[QW,show (j:Int)<((Gj x).length:Int) by omega,Uj,Zm,hy,Bq,Int.le_refl,ZiC _ q1,ZiC _ q2,Zg trivial,Y4 (show j<=1048576 by omega),Up];rw[show List.set (Gj x) j (Ge y,Gi y,Gn y,GJ y,GC y,GN y,())=Gj x from Zcn hy];rfl
  ·simp only[QW,Uf,Uh,Zg trivial,Zg (hg _),Y4 (show k<=1048576 by omega)]
   rw[Yu hx]) (by
  simp only[X4,Uf,Uh,Um])
 simpa using this
theorem Zni (b:Za) (hb:sm ZT b):Zd2 b=some b:=by
 obtain ⟨b1,b2,b3⟩:=JK hb;have h1:=Zu b3;unfold Zd2;rw[Zmv _ b1,Bq,Zmt _ b2,Bq];have:=YK (l:=K2 b) (λk=>((k:Int),(K2 b).take k,())) (step:=λv=>JU b (K4 b) (KZ b) v.1 v.2.1) (good:=b) (λk x hx hk=>by
  have hg:(((K2 b).take k).length+[x].length)*96<=140737488355328:=by rw[Ui,Un];omega
  simp only[JU,show (k:Int)<((K2 b).length:Int) by omega,Uj,Zm,hx,Bq,Zi5 x (Zas b3 hx),Zg hg,Y4 (show k<=1048576 by omega)];rw[Yu hx]) (by
  simp only[JU,Uf,Uh,Um])
 simpa using this
theorem ZEs {pl:List Pl} {k:Nat} {p:Pl} (hp:pl[k]?=some p) (h2:p.2.2.2.1=false):nth pl p.2.2.1 (k+1)=nth pl p.2.2.1 k+1:=by
 unfold nth;rw[Zcg hp,Zl2 rfl h2,Ug,Un]
theorem ZDA {pl:List Pl} {net:Int} {k:Nat} {p:Pl} (hp:pl[k]?=some p) (h:¬(p.2.2.1=net/\p.2.2.2.1=false)):nth pl net (k+1)=nth pl net k:=by
 unfold nth;rw[Zcg hp,Zl1 h,Uo]
def seen (pl:List Pl) (n k:Nat):List Int:=(List.range n).map (λ(v:Nat)=>((nth pl (v:Int) k:Nat):Int))
theorem Zq6 {pl:List Pl} {n k v:Nat} (hv:v<n):(seen pl n k)[v]?=some ((nth pl (v:Int) k:Nat):Int):=by
 unfold seen;rw[UI,Kh hv];rfl
theorem ZBd (pl:List Pl) (n:Nat):List.replicate n (0:Int)=seen pl n 0:=by
 apply UD;intro v;by_cases hv:v<n
 ·rw[Zq6 hv,Kc,Uc hv]
  unfold nth;simp[cat]
 ·rw[UC (by simp;omega),UC (by unfold seen;simp;omega)]
theorem ZC6 {pl:List Pl} {n k:Nat} {p:Pl} (hp:pl[k]?=some p) (h2:p.2.2.2.1=false) (h0:0<=p.2.2.1) (h1:p.2.2.1<(n:Int)):(seen pl n k).set p.2.2.1.toNat (((nth pl p.2.2.1 k+1:Nat):Int))=seen pl n (k+1):=by
 apply UD;intro v;by_cases hv:v<n
 ·rw[UQ,Zq6 hv,Zq6 hv]
  split
  ·rename_i e
   rw[Uc (by unfold seen;simp;omega)];subst e;rw[show ((p.2.2.1.toNat:Nat):Int)=p.2.2.1 by omega,ZEs hp h2]
  ·rename_i e
   rw[ZDA hp (λq=>e (by have:=q.1;omega))]
 ·rw[UC (by unfold seen;simp;omega),UC (by unfold seen;simp;omega)]
theorem ZEA {pl:List Pl} {n k:Nat} {p:Pl} (hp:pl[k]?=some p) (h2:p.2.2.2.1=true):seen pl n (k+1)=seen pl n k:=by
 unfold seen;apply KK;intro v _;rw[ZDA hp (λq=>by rw[h2] at q;cases q.2)]
theorem Zw8 {b:Za} (h:YT b) {k:Nat} {p:Pl} (hp:(places (KZ b))[k]?=some p) (h2:p.2.2.2.1=false) :
  ∃ w,atI (K2 b) p.2.2.1=some w/\(K2 b)[p.2.2.1.toNat]?=some w/\atI (Gk w) ((nth (places (KZ b)) p.2.2.1 k:Nat):Int)=some (Xp b k)/\ZbO w ((sinks (KZ b) p.2.2.1).length:Int):=by
 have hn:=JH h.ok.1 (Ue hp);obtain ⟨w,hw1,hw2,hw3⟩:=ZnJ h hn;have hlt:=ZAS hp rfl h2;have hs:=hw3.2.2.2.1;have hlt2:nth (places (KZ b)) p.2.2.1 k<(Gk w).length:=by
  have:(sinks (KZ b) p.2.2.1).length=(cat (Ji p.2.2.1) 0 (places (KZ b))).length:=rfl;omega
 refine ⟨w,hw2,hw1,?_,hw3⟩;rw[Zm];have e:Xp b k=((Gk w)[nth (places (KZ b)) p.2.2.1 k]?).getD 0:=by
  unfold Xp;simp only[hp,h2,hw1];rfl
 rw[e,Ua hlt2];rfl
theorem ZiF {b:Za} (h:YT b):VT b=some (ZbG (places (KZ b)) (Xp b) (places (KZ b)).length):=by
 have hf:=h.ok.1.few;have hpl:=Z0 hf;have h30:=h.ok.1.2.1.2.1;have hwn:=h.ok.2.1;have hwl:(K2 b).length<=1048576:=Zu (JK h.sm).2.2;unfold VT;rw[Zg (by omega),Zg (by omega),Zg (by omega),Zg (by omega),ZN _ hf,Bq,Up,ZBd (places (KZ b))];refine YK (l:=places (KZ b)) (λk=>((k:Int),ZbG (places (KZ b)) (Xp b) k,seen (places (KZ b)) (K2 b).length k,())) (λk p hp hk=>?_) ?_
 ·simp only[ZaW,show (k:Int)<((places (KZ b)).length:Int) by omega,Uj,Zm,hp,Bq,Y4 (show k<=1048576 by omega)]
  have e1:GS p=p.2.2.2.1:=rfl;have e2:ZH.net p=p.2.2.1:=rfl;by_cases h2:p.2.2.2.1=true
  ·rw[e1,Uc h2,Zp9 hp h2,ZEA hp h2]
  ·have h2':p.2.2.2.1=false:=by simpa using h2
   obtain ⟨w,hw1,hw2,hw3,hw4⟩:=Zw8 h hp h2';have hn:=JH h.ok.1 (Ue hp);have hv:p.2.2.1<((K2 b).length:Int):=by have:=hn.2;omega
   have hs:atI (seen (places (KZ b)) (K2 b).length k) p.2.2.1=some ((nth (places (KZ b)) p.2.2.1 k:Nat):Int):=by
    refine YD hn.1 ?_;rw[Zq6 (by have:=hn.1;omega),show ((p.2.2.1.toNat:Nat):Int)=p.2.2.1 by have:=hn.1;omega]
   have hlt:=ZAS hp rfl h2';have hlc:=Zbb p.2.2.1 (places (KZ b)) 0;rw[e1,Ud h2,e2,hw1,Bq,hs,Bq,hw3,Bq,Y4 (show nth (places (KZ b)) p.2.2.1 k<=1048576 by omega),ZC6 hp h2' hn.1 hv,Zsa hp h2];rfl
 ·simp only[ZaW,Uf,Uh]
theorem ZyB {pl:List Pl} {net:Int}:∀ (n:Nat),n<=pl.length->∀ (i:Nat) (x:Int),(cat (Ji net) 0 (pl.take n))[i]?=some x->
  ∃ (k:Nat) (p:Pl),k<n/\pl[k]?=some p/\x=(k:Int)/\p.2.2.1=net/\p.2.2.2.1=false/\nth pl net k=i
 | 0,_,i,x,h=>by simp[cat] at h
 | n+1,hn,i,x,h=>by
  have hp:pl[n]?=some pl[n]:=Ua (by omega);generalize pl[n]=p at hp;rw[Zcg hp] at h;by_cases hi:i<(cat (Ji net) 0 (pl.take n)).length
  ·rw[Uq hi] at h
   obtain ⟨k,q,a,r⟩:=ZyB n (by omega) i x h;exact ⟨k,q,by omega,r⟩
  ·rw[Uv (by omega)] at h
   by_cases hs:p.2.2.1=net/\p.2.2.2.1=false
   ·rw[Zl2 hs.1 hs.2] at h
    have h0:=(Ub.1 h).1;rw[Un] at h0;rw[show i-(cat (Ji net) 0 (pl.take n)).length=0 by omega] at h;injection h with h
    exact ⟨n,p,by omega,hp,h.symm,hs.1,hs.2,by unfold nth;omega⟩
   ·rw[Zl1 hs] at h
    cases h
theorem ZuQ {pl:List Pl} {net:Int} {i:Nat} {x:Int} (h:(cat (Ji net) 0 pl)[i]?=some x) :
  ∃ (k:Nat) (p:Pl),pl[k]?=some p/\x=(k:Int)/\p.2.2.1=net/\p.2.2.2.1=false/\nth pl net k=i:=by
 obtain ⟨k,p,_,r⟩:=ZyB (pl:=pl) (net:=net) pl.length (UK _) i x (by rw[Um];exact h);exact ⟨k,p,r⟩
def filled (b:Za) (P:Nat->Pl->Bool):List Int:=cat (λk p=>[if P k p=true then Xp b k else 0]) 0 (places (KZ b))
theorem Zc7 (b:Za) (P:Nat->Pl->Bool) (k:Nat):(filled b P)[k]?=((places (KZ b))[k]?).map (λp=>if P k p=true then Xp b k else 0):=by
 unfold filled;rw[Zbs,Uw]
theorem ZoZ (b:Za) (P:Nat->Pl->Bool):(filled b P).length=(places (KZ b)).length:=ZaF _ _
theorem Zp3 {b:Za} {P Q:Nat->Pl->Bool} (h:∀ (k:Nat) (p:Pl),(places (KZ b))[k]?=some p->P k p=Q k p):filled b P=filled b Q:=by
 apply UD;intro k;rw[Zc7,Zc7];cases hp:(places (KZ b))[k]? with
 | none=>rfl
 | some p=>simp only[UY,h k p hp]
def ZCV (v:Nat) (k:Nat) (p:Pl):Bool:=decide (p.2.2.1<(v:Int))&&!p.2.2.2.1
def pIn (b:Za) (v i:Nat) (k:Nat) (p:Pl):Bool:=!p.2.2.2.1&&(decide (p.2.2.1<(v:Int))||(decide (p.2.2.1=(v:Int))&&decide (nth (places (KZ b)) (v:Int) k<i)))
def Zbl (b:Za):List Int:=filled b (λ_ _=>true)
theorem ZlU {b:Za} {k:Nat} (hk:k<(places (KZ b)).length):(Zbl b)[k]?=some (Xp b k):=by
 unfold Zbl;rw[Zc7,Ua hk];rfl
theorem Za9 (b:Za):(Zbl b).length=(places (KZ b)).length:=ZoZ _ _
theorem Zhb {b:Za} (h:YT b):Zdo b=some (Zbl b):=by
 have hf:=h.ok.1.few;have hpl:=Z0 hf;have h30:=h.ok.1.2.1.2.1;have hwn:=h.ok.2.1;have hwl:(K2 b).length<=1048576:=Zu (JK h.sm).2.2;have first:List.replicate (places (KZ b)).length (0:Int)=filled b (ZCV 0):=by
  apply UD;intro k;rw[Zc7,Kc];split
  ·rename_i hk
   have hp:=Ua hk;rw[hp];have hn:=(JH h.ok.1 (Ue hp)).1;rw[UY,Ud];unfold ZCV;simp only[Ur,Uk,not_and];intro q;omega
  ·rw[UC (by omega)];rfl
 have last:filled b (ZCV (K2 b).length)=Zbl b:=by
  apply UD;intro k;unfold Zbl;rw[Zc7,Zc7];cases hp:(places (KZ b))[k]? with
  | none=>rfl
  | some p =>
   have hn:=(JH h.ok.1 (Ue hp)).2;simp only[UY,Uj];by_cases h2:p.2.2.2.1=true
   ·have:Xp b k=0:=by unfold Xp;simp only[hp,h2,Uj]
    simp only[this,ite_self]
   ·rw[Uc]
    unfold ZCV;simp only[Ur,Uk,UP];exact ⟨by omega,by simpa using h2⟩
 unfold Zdo;rw[Yg _ hf,Bq,Zg (by omega),Zg (by omega),Zg (by omega),Zg (by omega),Up,first];refine YK (l:=K2 b) (λv=>((v:Int),filled b (ZCV v),())) (λv w hw hv=>?_) ?_
 ·simp only[ZeG,show (v:Int)<((K2 b).length:Int) by omega,Uj,XZ _ _ hf,Bq]
  have e0:filled b (ZCV v)=filled b (pIn b v 0):=Zp3 λk p _=>by unfold ZCV pIn;simp[Bool.and_comm]
  have e1:filled b (pIn b v (sinks (KZ b) (v:Int)).length)=filled b (ZCV (v+1)):=Zp3 λk p hp=>by
   unfold ZCV pIn;by_cases h2:p.2.2.2.1=true
   ·simp[h2]
   ·have h2':p.2.2.2.1=false:=by simpa using h2
    rw[h2',Bool.not_false,Bool.true_and,Bool.and_true];by_cases hq:p.2.2.1=(v:Int)
    ·have hlt:nth (places (KZ b)) (v:Int) k<(sinks (KZ b) (v:Int)).length:=ZAS hp hq h2'
     rw[UX hlt,UX hq,UX (show p.2.2.1<((v+1:Nat):Int) by omega)];simp
    ·rw[decide_eq_false hq,KW,Bool.or_false]
     exact Km.2 (by omega)
  rw[e0];refine YK (l:=sinks (KZ b) (v:Int)) (λi=>((i:Int),filled b (pIn b v i),())) (λi x hx hi=>?_) ?_
  ·obtain ⟨k,p,hp,ex,hn,h2,hnth⟩:=ZuQ (pl:=places (KZ b)) hx
   obtain ⟨w',hw1,hw2,hw3,hw4⟩:=Zw8 h hp h2;have hk:=(Ub.1 hp).1;have hlc:=Zbb (v:Int) (places (KZ b)) 0;have hlc2:(sinks (KZ b) (v:Int)).length<=(places (KZ b)).length:=hlc;rw[hn,hnth] at hw3;rw[hn] at hw1;have hfk:(filled b (pIn b v i))[k]?=some ((filled b (pIn b v i))[k]'(by rw[ZoZ];exact hk)):=Ua _;simp only[ZeF,show (i:Int)<((sinks (KZ b) (v:Int)).length:Int) by omega,Uj,Zm,hx,Bq,<-Zm (K2 b),hw1,<-Zm (Gk w'),hw3,Y4 (show i<=1048576 by omega)];subst ex;rw[Zm,hfk,Bq,Up];have:List.set (filled b (pIn b v i)) k (Xp b k)=filled b (pIn b v (i+1)):=by
    apply UD;intro j;rw[UQ,ZoZ];split
    ·rename_i e
     subst e;rw[Zc7,hp,UY,Uc];unfold pIn;rw[h2,hnth];simp[hn]
    ·rename_i e
     rw[Zc7,Zc7];cases hq:(places (KZ b))[j]? with
     | none=>rfl
     | some q =>
      have:pIn b v i j q=pIn b v (i+1) j q:=by
       unfold pIn;by_cases h3:q.2.2.2.1=true
       ·simp[h3]
       ·have h3':q.2.2.2.1=false:=by simpa using h3
        by_cases hqn:q.2.2.1=(v:Int)
        ·have hne:nth (places (KZ b)) (v:Int) j≠i:=by
          intro hh;have h4:=ZoJ hq hqn h3';rw[hh] at h4;have h5:(cat (Ji (v:Int)) 0 (places (KZ b)))[i]?=some (k:Int):=hx;rw[h5] at h4;injection h4 with h4
          omega
         rw[show decide (nth (places (KZ b)) (v:Int) j<i)=decide (nth (places (KZ b)) (v:Int) j<i+1) from Km.2 (by omega)]
        ·rw[decide_eq_false hqn,KW,KW]
      rw[UY,UY,this]
   rw[this]
  ·simp only[ZeF,Uf,Uh,Y4 (show v<=1048576 by omega),e1]
 ·simp only[ZeG,Uf,Uh,last]
def wip (ws:List Zo) (k:Nat):List Zo:=cat (λj w=>[if j<k then Zf8 w [] else w]) 0 ws
theorem ZpV (ws:List Zo) (k v:Nat):(wip ws k)[v]?=(ws[v]?).map (λw=>if v<k then Zf8 w [] else w):=by
 unfold wip;rw[Zbs,Uw]
theorem ZFD (ws:List Zo) (k:Nat):(wip ws k).length=ws.length:=ZaF _ _
theorem ZDk (ws:List Zo):wip ws 0=ws:=by
 apply UD;intro v;rw[ZpV];simp
theorem ZFB (pl:List Pl) (ws:List Zo) (nd:Nat->Int):wip ws ws.length=ZiU pl ws nd 0:=by
 apply UD;intro v;unfold ZiU;rw[ZpV,ZfI];cases hv:ws[v]? with
 | none=>rfl
 | some w =>
  have:=(Ub.1 hv).1;simp only[UY,Uc this,Ku,cat,Kw]
theorem ZDj {ws:List Zo} {k:Nat} {w:Zo} (hw:ws[k]?=some w):(wip ws k)[k]?=some w/\(wip ws k).set k (Zf8 w [])=wip ws (k+1):=by
 constructor
 ·rw[ZpV,hw];simp
 ·apply UD
  intro v;rw[UQ,ZFD];split
  ·rename_i e
   subst e;rw[Uc (Ub.1 hw).1,ZpV,hw,UY,Uc (by omega)]
  ·rw[ZpV,ZpV]
   congr 1;funext w';by_cases h:v<k
   ·rw[Uc h,Uc (by omega)]
   ·rw[Ud h,Ud (by omega)]
theorem ZiD {b:Za} {nodes:Zm7} {nd:Nat->Int} (hf:Few (KZ b)) (hm:Maps nodes (places (KZ b)) nd) (hn:ZmF (places (KZ b)) (K2 b).length) (hw:(K2 b).length<=1048576) :
  QT b nodes=some (K4 b,KZ b,wired (places (KZ b)) (K2 b) nd,()):=by
 have hpl:=Z0 hf;unfold QT;have:=YK (l:=K2 b) (λk=>((k:Int),wip (K2 b) k,())) (step:=λv=>VR b nodes v.1 v.2.1) (good:=(K4 b,KZ b,wired (places (KZ b)) (K2 b) nd,())) (λk w hk hlt=>by
  obtain ⟨a1,a2⟩:=ZDj hk;simp only[VR,show (k:Int)<((K2 b).length:Int) by omega,Uj,Zm,a1,Bq,Y4 (show k<=1048576 by omega),Up];rw[<-a2];rfl) (by
  simp only[VR,Uf,Uh,ZN _ hf,Bq,ZFB (places (KZ b)) (K2 b) nd];refine YK (l:=places (KZ b)) (λk=>((k:Int),ZiU (places (KZ b)) (K2 b) nd k,())) (λk p hp hk=>?_) ?_
  ·simp only[ZaV,show (k:Int)<((places (KZ b)).length:Int) by omega,Uj,Zm,hp,Bq,Y4 (show k<=1048576 by omega)]
   have e1:GS p=p.2.2.2.1:=rfl;have e2:ZH.net p=p.2.2.1:=rfl;have e3:Zmh Zc0 (Ty.int IntKind.i64) nodes (Gq p,ZH.pin p,())=Zmh Key (.int .i64) nodes (Zx7 p):=rfl;by_cases h2:p.2.2.2.1=true
   ·rw[e1,Uc h2,Zwr hp h2]
   ·have h2':p.2.2.2.1=false:=by simpa using h2
    obtain ⟨h0,h1⟩:=hn p (Ue hp) h2';have hwk:(K2 b)[p.2.2.1.toNat]?=some ((K2 b)[p.2.2.1.toNat]'(by omega)):=Ua (by omega);obtain ⟨w1,w2⟩:=Zws (nd:=nd) hp h2' h0 hwk;have hl:=Zbb p.2.2.1 ((places (KZ b)).take k) 0;rw[e1,Ud h2,e2,YD h0 w1,Bq,e3,hm k p hp h2',Zg (by
     show ((List.map _ _).length+1)*8<=_;rw[UL];rw[Ui] at hl;omega),<-w2]
    rfl
  ·simp only[ZaV,Uf,Uh]
   unfold ZiU;rw[Um])
 rw[ZDk] at this;exact this
theorem ZjE {b:Za} {k:Nat} {p:Pl} (hp:(places (KZ b))[k]?=some p) (n:Int):Jq b (p.1,p.2.1,()) n=some (K4 b,conn (KZ b) p.1 p.2.1 n,K2 b,()):=by
 unfold Jq conn;rcases JG hp with ⟨i,j,x,m,hx,hn,e,rfl⟩ | ⟨j,q,hq,e,rfl⟩
 ·have c:¬((i:Int)<0):=by omega
  simp only[Zfw,G6,J3.pin,Ud c,Zm,hx,Bq,Up];have hn2:x.2.2.1[j]?=some m:=hn;rw[hn2];rfl
 ·have c:((-1:Int)<0):=by omega
  simp only[G6,J3.pin,Uc c,Zm,hq,Bq,Up];rfl
theorem Zoz {d:Zb} (hn:0<(K1 d).length) {p:Pl} (h:p∈places (Qt d)):p∈places d:=by
 have hx:(K1 d)[(K1 d).length-1]?=some (K1 d)[(K1 d).length-1]:=Ua (by omega);rw[Zmk (s:=[]) hn hx,Zif];unfold places at h;rcases UB.1 h with h | h
 ·exact List.mem_append_left _ (List.mem_append_left _ h)
 ·exact List.mem_append_right _ h
theorem ZmE.sink {b:Za} (h:YT b) (hL:ZmE b):∃ (k:Nat) (p:Pl),sinks (KZ b) (((K6 (KZ b)).length:Int)-1)=[(k:Int)]/\(places (KZ b))[k]?=some p/\p.2.2.1=((K6 (KZ b)).length:Int)-1/\p.2.2.2.1=false/\p.1≠((K1 (KZ b)).length:Int)-1:=by
 obtain ⟨x,c,w,m,hn,hx,hc,hk1,hk2,hl2,hm,hl,hne,hnm,hw,hs1,hs2,hp1,hc0⟩:=hL
 match hs:sinks (KZ b) (((K6 (KZ b)).length:Int)-1),hs2 with
 | [v],_ =>
  obtain ⟨k,p,hp,e,h1,h2,_⟩:=ZuQ (pl:=places (KZ b)) (net:=((K6 (KZ b)).length:Int)-1) (i:=0) (x:=v) (by
   show (sinks (KZ b) (((K6 (KZ b)).length:Int)-1))[0]?=some v;rw[hs];rfl)
  subst e;refine ⟨k,p,rfl,hp,h1,h2,λq=>?_⟩;rcases JG hp with ⟨i,j,y,n,hy,hnj,_,rfl⟩ | ⟨j,y,_,_,rfl⟩
  ·simp only[Zfw] at q h1 h2
   have ei:i=(K1 (KZ b)).length-1:=by omega
   rw[ei,hx] at hy;injection hy with hy
   subst hy;have hj:=(Ub.1 hnj).1;rw[hl2] at h2 hj;have:j=0\/j=1:=by omega
   rcases this with rfl | rfl
   ·rw[show atI (Gb x) 0=(Gb x)[0]? from rfl,hnj] at hm
    injection hm with hm
    exact hne (hm.symm.trans h1)
   ·exact absurd h2 (by simp only[Kj,Classical.not_not];rw[YZ (by omega) (by omega)];rfl)
  ·simp only at q
   omega
theorem ZAN {b:Za} (h:YT b) {k:Nat} {p:Pl} {m:Int} (hn:0<(K1 (KZ b)).length) (hs:sinks (KZ b) (((K6 (KZ b)).length:Int)-1)=[(k:Int)]) (hp:(places (KZ b))[k]?=some p) (h0:0<=m) (h1:m<((K6 (KZ b)).length:Int)-1) :
  ZmF (places (unD b p m)) ((K2 b).length-1):=by
 have hwn:=h.ok.2.1;have hD:ZmF (places (conn (KZ b) p.1 p.2.1 m)) ((K2 b).length-1):=by
  rw[QE hp];intro q hq hd;obtain ⟨j,hj⟩:=U1 hq;rw[UQ] at hj;split at hj
  ·split at hj
   ·injection hj with hj
    subst hj;exact ⟨h0,by show m<_;omega⟩
   ·cases hj
  ·rename_i e
   have hnet:=JH h.ok.1 (Ue hj);refine ⟨hnet.1,?_⟩;by_cases hq2:q.2.2.1=((K6 (KZ b)).length:Int)-1
   ·have h3:=ZoJ hj hq2 hd
    have h4:(sinks (KZ b) (((K6 (KZ b)).length:Int)-1))[nth (places (KZ b)) (((K6 (KZ b)).length:Int)-1) j]?=some (j:Int):=h3;rw[hs] at h4;have h5:=Ue h4;rw[Uu] at h5;exact absurd (by omega) e
   ·have:=hnet.2
    omega
 intro q hq hd;exact hD q (Zoz (by rw[XC];exact hn) hq) hd
theorem ZlI {d:Zb} {x:Ze} (hn:0<(K1 d).length) (hx:(K1 d)[(K1 d).length-1]?=some x) (h2:(Gb x).length=2):YQ (Qt d)+2=YQ d:=by
 have h1:=ZwG hn hx;unfold YQ;rw[h1,ZeK,Ug];simp only[cat,Uo,Vx,h2]
theorem ZtF {d:Zb} {x:Ze} (hn:0<(K1 d).length) (hx:(K1 d)[(K1 d).length-1]?=some x) (h2:(Gb x).length=2):Zg5 d ((K1 d).length-1)=YQ d-2:=by
 have h1:=ZlI hn hx h2;have:Zg5 d ((K1 d).length-1)=YQ (Qt d):=rfl;omega
theorem Zqo {b:Za} (h:YT b) (hL:ZmE b):∃ (k:Nat) (p:Pl) (m v:Int),sinks (KZ b) (((K6 (KZ b)).length:Int)-1)=[(k:Int)]/\(places (KZ b))[k]?=some p/\p.1≠((K1 (KZ b)).length:Int)-1/\
  (∀ y,(K1 (KZ b))[(K1 (KZ b)).length-1]?=some y->atI (Gb y) 0=some m)/\v=Xp b (YQ (KZ b)-2)/\
  Zbu b=some ((p.1,p.2.1,()),(K4 b,unD b p m,wired (places (unD b p m)) ((K2 b).take ((K2 b).length-1)) (ZvQ (λj=>if j=k then v else Xp b j) (YQ (unD b p m))),())):=by
 obtain ⟨k,p,hs,hp,hpn,hpd,hpi⟩:=hL.sink h;obtain ⟨x,c,w,m,hn,hx,hc,hk1,hk2,hl2,hm,hl,hne,hnm,hw,hs1,hs2,hp1,hc0⟩:=hL;have hD:=h.ok.1;have hf:=hD.few;have hpl:=Z0 hf;have h14:=hf.insts;have h30:=hD.2.1.2.1;have hwn:=h.ok.2.1;obtain ⟨_,_,hnet⟩:=hD.2.2.1 x (Ue hx);have hm0:(Gb x)[0]?=some m:=hm;have hmn:=hnet m (Ue hm0);have hpos:1<=(K6 (KZ b)).length:=by have:=hmn.1;have:=hmn.2;omega
 have hmn2:m<((K6 (KZ b)).length:Int)-1:=by have:=hmn.2;omega
 have hx2:atI (K1 (KZ b)) (((K1 (KZ b)).length:Int)-1)=some x:=YD (by omega) (by rw[<-hx];congr 1;omega);have t1:Int.toNat (((K1 (KZ b)).length:Int)-1)=(K1 (KZ b)).length-1:=by omega
 have t2:Int.toNat (((K6 (KZ b)).length:Int)-1)=(K6 (KZ b)).length-1:=by omega
 have t3:Int.toNat (((K2 b).length:Int)-1)=(K2 b).length-1:=by omega
 have e:((K4 b,(List.set (K1 (KZ b)) ((K1 (KZ b)).length-1) x,(KZ b).snd),b.snd.snd):Za)=b:=by rw[Zcn hx]
 refine ⟨k,p,m,(Option.getD (Zmh Key (Ty.int IntKind.i64) (ZbG (places (KZ b)) (Xp b) (places (KZ b)).length) ((((K1 (KZ b)).length:Int)-1),(0:Int),())) (0:Int)),hs,hp,hpi,λy hy=>by rw[hx] at hy;injection hy with hy;rw[<-hy];exact hm,?_,?_⟩
 ·have h5:=ZgT hx hm0
  rw[Kd,ZtF hn hx hl2] at h5;have h6:=Zmi (KZ b) (Xp b) _ _ h5 (by
   show decide ((0:Int)=Wq (((Gb x).length:Int)-1))=false;rw[hl2,YZ (by omega) (by omega)];decide)
  have h7:Zx7 (Zfw ((K1 (KZ b)).length-1) x 0 m)=((((K1 (KZ b)).length:Int)-1),(0:Int),()):=by
   show ((((K1 (KZ b)).length-1:Nat):Int),(0:Int),())=_;rw[show (((K1 (KZ b)).length-1:Nat):Int)=((K1 (KZ b)).length:Int)-1 by omega]
  rw[h7] at h6;rw[h6];rfl
 unfold Zbu;rw[ZiF h,Bq,ZN _ hf,Bq,show Xh (K6 (KZ b))=some ((K6 (KZ b)).length:Int) from rfl,Bq,
  YZ (n:=((K6 (KZ b)).length:Int)-1) (by omega) (by omega),ZaK _ _ hf,Bq,hs,show atI [(k:Int)] 0=some (k:Int) from rfl,Bq,Zm,hp,Bq,
  YZ (n:=((K1 (KZ b)).length:Int)-1) (by omega) (by omega),hx2,Bq,show x.snd.snd.fst=Gb x from rfl,hm,Bq,t1,e,
  show (Gq p,ZH.pin p,())=(p.1,p.2.1,()) from rfl,ZjE hp m,Bq]
 have eD:KZ ((K4 b,conn (KZ b) p.1 p.2.1 m,K2 b,()):Za)=conn (KZ b) p.1 p.2.1 m:=rfl;have eW:K2 ((K4 b,conn (KZ b) p.1 p.2.1 m,K2 b,()):Za)=K2 b:=rfl;have eL:K4 ((K4 b,conn (KZ b) p.1 p.2.1 m,K2 b,()):Za)=K4 b:=rfl;rw[eD,eW,eL,VF,YZ (n:=((K6 (KZ b)).length:Int)-1) (by omega) (by omega),YZ (n:=((K2 b).length:Int)-1) (by omega) (by omega),t2,t3,
  Zg (by omega),Zg (by rw[XC];omega),Zg (by omega),Zg (by omega),Zg (by omega),Zg (by omega)]
 simp only[Int.toNat_zero,Nat.sub_zero,KF];have hB:((K4 b,(List.take ((K1 (KZ b)).length-1) (K1 (conn (KZ b) p.1 p.2.1 m)),List.take ((K6 (KZ b)).length-1) (K6 (KZ b)),(conn (KZ b) p.1 p.2.1 m).snd.snd),List.take ((K2 b).length-1) (K2 b),()):Za)
   = (K4 b,unD b p m,List.take ((K2 b).length-1) (K2 b),()):=by
  unfold unD Qt;rw[XC,VF]
 rw[hB];have hx3:(K1 (conn (KZ b) p.1 p.2.1 m))[(K1 (conn (KZ b) p.1 p.2.1 m)).length-1]?=some ((K1 (conn (KZ b) p.1 p.2.1 m))[(K1 (conn (KZ b) p.1 p.2.1 m)).length-1]'(by rw[XC];omega)):=Ua _;generalize (K1 (conn (KZ b) p.1 p.2.1 m))[(K1 (conn (KZ b) p.1 p.2.1 m)).length-1]'(by rw[XC];omega)=x' at hx3;have hx4:(Gb x').length=2:=by
  obtain ⟨y,hy,_,_,hyl,_⟩:=Zim hx3;rw[XC,hx] at hy;injection hy with hy
  rw[hyl,<-hy,hl2]
 have hM:=(((Zmi (KZ b) (Xp b)).put hp (Option.getD (Zmh Key (Ty.int IntKind.i64) (ZbG (places (KZ b)) (Xp b) (places (KZ b)).length) ((((K1 (KZ b)).length:Int)-1),(0:Int),())) (0:Int))).set hp m);rw[<-QE hp m] at hM;have hM2:=hM.cut (by rw[XC];omega) hx3 hx4;have hlen:(List.take ((K2 b).length-1) (K2 b)).length=(K2 b).length-1:=by rw[Ui];omega
 have:=ZiD (b:=(K4 b,unD b p m,List.take ((K2 b).length-1) (K2 b),())) (hf.conn p.1 p.2.1 m).cut hM2 (by
  show ZmF (places (unD b p m)) (List.take ((K2 b).length-1) (K2 b)).length;rw[hlen];exact ZAN h hn hs hp hmn.1 hmn2) (by
  show (List.take ((K2 b).length-1) (K2 b)).length<=_;rw[hlen];omega)
 exact Eq.trans (UM (λo=>Option.bind o λconnect0=>some ((p.1,p.2.1,()),connect0)) this) rfl
theorem ZbO.put {w:Zo} {s:Int} (h:ZbO w s) {l:List Int} (hl:ZjP l 0 (((K3 w).length:Int)-1)):ZbO (Zf8 w l) (l.length:Int) :=
 ⟨h.1,h.2.1,h.2.2.1,rfl,h.2.2.2.2.1,h.2.2.2.2.2.1,h.2.2.2.2.2.2.1,hl⟩
def Fits (pl:List Pl) (ws:List Zo) (nd:Nat->Int):Prop:=∀ (k:Nat) (p:Pl) (w:Zo),pl[k]?=some p->p.2.2.2.1=false->ws[p.2.2.1.toNat]?=some w->0<=nd k/\nd k<=((K3 w).length:Int)-1
theorem Zu7 {pl:List Pl} {ws:List Zo} {nd:Nat->Int} (hw:∀ (v:Nat) (w:Zo),ws[v]?=some w->∃ s,ZbO w s) (hf:Fits pl ws nd) :
  ZfL (wired pl ws nd) (λv w=>ZbO w ((cat (Ji (v:Int)) 0 pl).length:Int)):=by
 intro v w hv;rw[ZfI] at hv;cases hx:ws[v]? with
 | none=>rw[hx] at hv;cases hv
 | some y =>
  rw[hx] at hv;injection hv with hv
  subst hv;obtain ⟨s,hs⟩:=hw v y hx;have:=hs.put (l:=(cat (Ji (v:Int)) 0 pl).map (λk=>nd k.toNat)) (λz hz=>by
   obtain ⟨j,hj,rfl⟩:=Kq.1 hz;obtain ⟨k,p,rfl,hp,h1,h2⟩:=ZBi hj;exact hf k p y hp h2 (by rw[h1];exact hx))
  rw[UL] at this;exact this
theorem Zq2 {b:Za} (h:YT b):Fits (places (KZ b)) (K2 b) (Xp b):=by
 intro k p w hp h2 hw;obtain ⟨w',_,hw1,hw2,hw3⟩:=Zw8 h hp h2;rw[hw1] at hw;injection hw with hw
 subst hw;rw[Zm] at hw2;exact hw3.2.2.2.2.2.2.2 _ (Ue hw2)
theorem Fits.set {pl:List Pl} {ws:List Zo} {nd:Nat->Int} (h:Fits pl ws nd) {k0:Nat} {p0:Pl} (n v:Int) (hv:∀ w,ws[n.toNat]?=some w->0<=v/\v<=((K3 w).length:Int)-1) :
  Fits (pl.set k0 (p0.1,p0.2.1,n,p0.2.2.2.1,())) ws (λj=>if j=k0 then v else nd j):=by
 intro k p w hp h2 hw;rw[UQ] at hp;split at hp
 ·rename_i e
  subst e;split at hp
  ·injection hp with hp
   subst hp;show 0<=(if k0=k0 then v else nd k0)/\(if k0=k0 then v else nd k0)<=_;rw[Uc rfl];exact hv w hw
  ·cases hp
 ·rename_i e
  show 0<=(if k=k0 then v else nd k)/\(if k=k0 then v else nd k)<=_;rw[Ud (λq=>e q.symm)];exact h k p w hp h2 hw
theorem V4.snoc {l:List (List UInt8)} {s:List UInt8} (h:V4 l l.length) (h1:Zao s=true) (h2:s ∉ l):V4 (l++[s]) (l++[s]).length:=by
 intro j t hj ht;by_cases e:j<l.length
 ·rw[Uq e] at ht
  obtain ⟨a,b⟩:=h j t e ht;refine ⟨a,?_⟩;rw[List.take_append_of_le_length (by omega)];exact b
 ·rw[Ug,Un] at hj
  have e2:j=l.length:=by omega
  subst e2;rw[Uv (by omega),KD] at ht;injection ht with ht
  subst ht;refine ⟨h1,?_⟩;rw[List.take_append_of_le_length (UK _),Um];exact h2
theorem V4.take {l:List (List UInt8)} (h:V4 l l.length) (m:Nat):V4 (l.take m) (l.take m).length:=by
 intro j t hj ht;rw[Ui] at hj;rw[UA,Uc (by omega)] at ht;obtain ⟨a,b⟩:=h j t (by omega) ht;refine ⟨a,?_⟩;rw[List.take_take,Nat.min_eq_left (by omega)];exact b
theorem ZwD (d:Zb) (a b n:Int):Zbo (conn d a b n)=Zbo d:=by
 unfold conn;split
 ·rfl
 ·show List.map Gu (match (K1 d)[a.toNat]? with | some x=>(K1 d).set a.toNat (ZfN x b.toNat n) | none=>K1 d)=List.map Gu (K1 d)
  split
  ·rename_i x hx
   rw[List.map_set];exact Zcn (by rw[UI,hx];rfl)
  ·rfl
theorem Zvq (d:Zb) (a b n:Int):ZdB (conn d a b n)=ZdB d:=by
 unfold conn;split
 ·show List.map GO (match (Ga d)[b.toNat]? with | some x=>(Ga d).set b.toNat (setPort x n) | none=>Ga d)=List.map GO (Ga d)
  split
  ·rename_i x hx
   rw[List.map_set];exact Zcn (by rw[UI,hx];rfl)
  ·rfl
 ·rfl
theorem Zvr {d:Zb} {a b n:Int} {i:Nat} {y:ZL} (hy:(Ga (conn d a b n))[i]?=some y):∃ x,(Ga d)[i]?=some x/\GO y=GO x/\Gz y=Gz x/\(GI y=GI x\/GI y=n):=by
 unfold conn at hy;split at hy
 ·have hy:(match (Ga d)[b.toNat]? with | some x=>(Ga d).set b.toNat (setPort x n) | none=>Ga d)[i]?=some y:=hy
  split at hy
  ·rename_i x hx
   rw[UQ] at hy;split at hy
   ·rename_i e
    split at hy
    ·injection hy with hy
     subst hy;exact ⟨x,by rw[<-e];exact hx,rfl,rfl,.inr rfl⟩
    ·cases hy
   ·exact ⟨y,hy,rfl,rfl,.inl rfl⟩
  ·exact ⟨y,hy,rfl,rfl,.inl rfl⟩
 ·exact ⟨y,hy,rfl,rfl,.inl rfl⟩
theorem Zn0 {α:Type} {f:α->Bool} {y:α} (hy:f y=false):∀ {l:List α} {i:Nat} {x:α},l[i]?=some x->f x=false->(l.set i y).filter f=l.filter f
 | [],i,x,h,_=>by simp at h
 | a::l,0,x,h,hx=>by
  have h:a=x:=by simpa using h
  subst h;simp[List.set,hx,hy]
 | a::l,i+1,x,h,hx=>by
  have:=Zn0 hy (l:=l) (i:=i) (by simpa using h) hx;simp only[List.set_cons_succ,List.filter_cons,this]
theorem Zmf {x:Ze} (h:0<(Gb x).length):(Gb x)[(Gb x).length-1]?=some (XU x):=by
 unfold XU;rw[List.getLastD_eq_getLast?,<-List.getLast?_eq_getElem?];cases hN:Gb x with
 | nil=>rw[hN] at h;simp at h
 | cons y r=>rw[List.getLast?_cons];rfl
theorem ZsX {x:Ze} {j:Nat} {n:Int} (h:j+1≠(Gb x).length):XU (ZfN x j n)=XU x:=by
 by_cases h0:0<(Gb x).length
 ·have h1:=Zmf (x:=ZfN x j n) (by show 0<(List.set (Gb x) j n).length;rw[Uy];exact h0)
  have h2:(List.set (Gb x) j n)[(List.set (Gb x) j n).length-1]?=some (XU (ZfN x j n)):=h1;rw[Uy,UQ,Ud (by omega),Zmf h0] at h2;injection h2 with h2
  exact h2.symm
 ·have e:Gb x=[]:=KJ.1 (by omega)
  unfold XU;show (List.set (Gb x) j n).getLastD 0=_;rw[e];rfl
theorem ZAf {d:Zb} (hf:Few d) {k:Nat} {p:Pl} (hp:(places d)[k]?=some p) (h2:p.2.2.2.1=false) (n:Int):Zp2 (conn d p.1 p.2.1 n)=Zp2 d:=by
 unfold Zp2;rcases JG hp with ⟨i,j,x,m,hx,hn,e,rfl⟩ | ⟨j,q,hq,e,rfl⟩
 ·have hl:=hf.nets x (Ue hx)
  have hj:=(Ub.1 hn).1;have h3:decide ((j:Int)=Wq (((Gb x).length:Int)-1))=false:=h2;rw[YZ (by omega) (by omega)] at h3;have h4:¬((j:Int)=((Gb x).length:Int)-1):=of_decide_eq_false h3;have c:¬((i:Int)<0):=by omega
  have e1:K1 (conn d (Zfw i x j m).1 (Zfw i x j m).2.1 n)=(K1 d).set i (ZfN x j n):=by
   unfold conn;show K1 (if (i:Int)<0 then _ else _)=_;rw[Ud c];show (match (K1 d)[(i:Int).toNat]? with | some x=>(K1 d).set (i:Int).toNat (ZfN x (j:Int).toNat n) | none=>K1 d)=_
   simp only[Up,hx]
  have e2:Ga (conn d (Zfw i x j m).1 (Zfw i x j m).2.1 n)=Ga d:=by
   unfold conn;show Ga (if (i:Int)<0 then _ else _)=_;rw[Ud c]
  rw[e1,e2,List.map_set,ZsX (by omega),Zcn (by rw[UI,hx];rfl)]
 ·have h3:decide (Gz q=1)=false:=h2
  have e1:K1 (conn d (-1) (j:Int) n)=K1 d:=by
   unfold conn;rw[Uc (by omega)]
  have e2:Ga (conn d (-1) (j:Int) n)=(Ga d).set j (setPort q n):=by
   unfold conn;rw[Uc (by omega)];show (match (Ga d)[(j:Int).toNat]? with | some x=>(Ga d).set (j:Int).toNat (setPort x n) | none=>Ga d)=_
   simp only[Up,hq]
  show (K1 (conn d (-1) (j:Int) n)).map XU++((Ga (conn d (-1) (j:Int) n)).filter (λp=>decide (Gz p=1))).map GI=_;rw[e1,e2,Zn0 (by exact h3) hq h3]
theorem ZwE {a:Zp} {d:Zb} (h:X0 a d) {k:Nat} {p:Pl} (hp:(places d)[k]?=some p) (h2:p.2.2.2.1=false) {n:Int} (hn:Zb9 d n):X0 a (conn d p.1 p.2.1 n):=by
 obtain ⟨hl,⟨n1,n2,n3,n4,n5,n6⟩,hi,hq,ho⟩:=h;have hf:Few d:=X0.few (a:=a) ⟨hl,⟨n1,n2,n3,n4,n5,n6⟩,hi,hq,ho⟩;refine ⟨hl,⟨by rw[XC];exact n1,by rw[VF];exact n2,by rw[ZjT];exact n3,by rw[ZwD];exact n4,by rw[VF];exact n5,by rw[Zvq];exact n6⟩,λy hy=>?_,λy hy=>?_,?_⟩
 ·obtain ⟨i,hi2⟩:=U1 hy
  obtain ⟨x,hx,_,hc,hlen,_,hm⟩:=Zim hi2;obtain ⟨r1,⟨c,r2,r3⟩,r4⟩:=hi x (Ue hx);refine ⟨by rw[hc];exact r1,⟨c,by rw[hc];exact r2,by rw[hlen];exact r3⟩,λm hm2=>?_⟩;unfold Zb9;rw[VF];rcases hm m hm2 with q | q
  ·exact r4 m q
  ·rw[q];exact hn
 ·obtain ⟨i,hi2⟩:=U1 hy
  obtain ⟨x,hx,_,hd,hm⟩:=Zvr hi2;obtain ⟨r1,r2⟩:=hq x (Ue hx);refine ⟨by rw[hd];exact r1,?_⟩;unfold Zb9;rw[VF];rcases hm with q | q
  ·rw[q];exact r2
  ·rw[q];exact hn
 ·unfold ZjQ
  rw[VF,ZAf hf hp h2];exact ho
theorem ZxM {a:Zp} {d:Zb} (h:X0 a d):∀ v∈Zp2 d,Zb9 d v:=by
 have hf:=h.few;intro v hv;unfold Zp2 at hv;rcases UB.1 hv with hv | hv
 ·obtain ⟨x,hx,rfl⟩:=Kq.1 hv
  have:=hf.nets x hx;exact ((h.2.2.1 x hx).last h.1 (by omega)).2
 ·obtain ⟨q,hq,rfl⟩:=Kq.1 hv
  exact (h.2.2.2.1 q (KQ.1 hq).1).2
theorem ZpF {d:Zb}:ZjQ d<->∀ v:Nat,v<(K6 d).length->(Zp2 d).countP (λx=>decide (x=(v:Int)))=1:=by
 unfold ZjQ;constructor
 ·intro h v hv
  have:=h _ (Ue (Zkp (s:=Zp2 d) hv));omega
 ·intro h x hx
  obtain ⟨j,hj⟩:=U1 hx;have hlt:=(Ub.1 hj).1;rw[Zkq] at hlt;rw[Zkp hlt] at hj;injection hj with hj
  have:=h j hlt;omega
theorem ZwF {l:List Int} {v:Int} (h:∀ x∈l,x≠v):l.countP (λx=>decide (x=v))=0:=by
 rw[List.countP_eq_zero];intro x hx;simp[h x hx]
theorem ZFX {a:Zp} {d:Zb} (h:X0 a d) {s:List UInt8} {c m:Int} {cell:Zl} (hs:Zao s=true) (h1:s ∉ Zbo d) (h2:s ∉ K6 d) (h13:(K1 d).length<=13) (h29:(K6 d).length<=29)
  (hc0:0<=c) (hc1:c<=((K8 a).length:Int)-1) (hc:(K8 a)[c.toNat]?=some cell) (hp:(K7 cell).length=2) (hm:Zb9 d m) :
  X0 a (addInst d (s,c,[m,((K6 d).length:Int)],()) s):=by
 have hdn:=ZxM h;obtain ⟨hl,⟨n1,n2,n3,n4,n5,n6⟩,hi,hq,ho⟩:=h;have eI:K1 (addInst d (s,c,[m,((K6 d).length:Int)],()) s)=K1 d++[(s,c,[m,((K6 d).length:Int)],())]:=rfl;have eN:K6 (addInst d (s,c,[m,((K6 d).length:Int)],()) s)=K6 d++[s]:=rfl;have eP:Ga (addInst d (s,c,[m,((K6 d).length:Int)],()) s)=Ga d:=rfl;have hnet:∀ n,Zb9 d n->Zb9 (addInst d (s,c,[m,((K6 d).length:Int)],()) s) n:=λn hn=>by
  unfold Zb9 at *;rw[eN,Ug,Un];omega
 refine ⟨hl,⟨by rw[eI,Ug,Un];omega,by rw[eN,Ug,Un];omega,n3,?_,by rw[eN];exact n5.snoc hs h2,n6⟩,λy hy=>?_,λy hy=>?_,?_⟩
 ·have:Zbo (addInst d (s,c,[m,((K6 d).length:Int)],()) s)=Zbo d++[s]:=by
   unfold Zbo;rw[eI,UV];rfl
  rw[this];exact n4.snoc hs h1
 ·rw[eI] at hy
  rcases UB.1 hy with hy | hy
  ·obtain ⟨r1,r2,r4⟩:=hi y hy
   exact ⟨r1,r2,λn hn=>hnet n (r4 n hn)⟩
  ·rw[Uu] at hy
   subst hy;refine ⟨⟨hc0,hc1⟩,⟨cell,hc,by rw[hp];rfl⟩,λn hn=>?_⟩;have hn:n∈[m,((K6 d).length:Int)]:=hn;rcases UT.1 hn with hn | hn
   ·rw[hn];exact hnet m hm
   ·rw[Uu] at hn
    subst hn;unfold Zb9;rw[eN,Ug,Un];omega
 ·obtain ⟨r1,r2⟩:=hq y hy
  exact ⟨r1,hnet _ r2⟩
 ·rw[ZpF] at ho ⊢
  intro v hv;rw[eN,Ug,Un] at hv;have e:Zp2 (addInst d (s,c,[m,((K6 d).length:Int)],()) s)=(K1 d).map XU++[((K6 d).length:Int)]++((Ga d).filter (λp=>decide (Gz p=1))).map GI:=by
   unfold Zp2;rw[eI,eP,UV];rfl
  have e2:Zp2 d=(K1 d).map XU++((Ga d).filter (λp=>decide (Gz p=1))).map GI:=rfl;rw[e,U2,U2,List.countP_singleton];by_cases hvl:v<(K6 d).length
  ·have:=ho v hvl
   rw[e2,U2] at this;rw[Ud (by simp;omega)];omega
  ·have h0:=ZwF (l:=Zp2 d) (v:=(v:Int)) (λx hx=>by have:=(hdn x hx).2;omega)
   rw[e2,U2] at h0;rw[Uc (by simp;omega)];omega
theorem ZD8 {d:Zb} (hf:Few d) {p:Pl} (hp:p∈places d) (h2:p.2.2.2.1=true):p.2.2.1∈Zp2 d:=by
 obtain ⟨k,hk⟩:=U1 hp;unfold Zp2;rcases JG hk with ⟨i,j,x,m,hx,hn,e,rfl⟩ | ⟨j,q,hq,e,rfl⟩
 ·have hl:=hf.nets x (Ue hx)
  have hj:=(Ub.1 hn).1;have h3:decide ((j:Int)=Wq (((Gb x).length:Int)-1))=true:=h2;rw[YZ (by omega) (by omega)] at h3;have h4:(j:Int)=((Gb x).length:Int)-1:=of_decide_eq_true h3;refine List.mem_append_left _ (Kq.2 ⟨x,Ue hx,?_⟩);have h5:=Zmf (x:=x) (by omega);rw[show (Gb x).length-1=j by omega,hn] at h5;injection h5 with h5
  exact h5.symm
 ·have h3:decide (Gz q=1)=true:=h2
  exact List.mem_append_right _ (Kq.2 ⟨q,KQ.2 ⟨Ue hq,h3⟩,rfl⟩)
theorem ZGe {a:Zp} {d:Zb} (h:X0 a d) {x:Ze} (hn:0<(K1 d).length) (hx:(K1 d)[(K1 d).length-1]?=some x) (hlx:XU x=((K6 d).length:Int)-1)
  (hs:∀ p∈places d,p.2.2.2.1=false->p.2.2.1≠((K6 d).length:Int)-1):X0 a (Qt d):=by
 have hdn:=ZxM h;have hf:=h.few;have hcut:=ZwG hn hx;obtain ⟨hl,⟨n1,n2,n3,n4,n5,n6⟩,hi,hq,ho⟩:=h;have hpos:1<=(K6 d).length:=by
  have:=hdn (XU x) (List.mem_append_left _ (Kq.2 ⟨x,Ue hx,rfl⟩));unfold Zb9 at this;omega
 have eN:(K6 (Qt d)).length=(K6 d).length-1:=by
  show (List.take ((K6 d).length-1) (K6 d)).length=_;rw[Ui];omega
 have eD:Zp2 d=(K1 (Qt d)).map XU++[XU x]++((Ga d).filter (λp=>decide (Gz p=1))).map GI:=by
  unfold Zp2;rw[hcut,UV];rfl
 have eC:Zp2 (Qt d)=(K1 (Qt d)).map XU++((Ga d).filter (λp=>decide (Gz p=1))).map GI:=rfl;have hcnt:∀ v:Int,(Zp2 d).countP (λy=>decide (y=v))=(Zp2 (Qt d)).countP (λy=>decide (y=v))+if XU x=v then 1 else 0:=λv=>by
  rw[eD,eC,U2,U2,U2,List.countP_singleton];by_cases q:XU x=v
  ·simp only[q,decide_true,Uj];omega
  ·simp only[q,decide_false,Uh];simp
 rw[ZpF] at ho;have none:∀ p∈places (Qt d),p.2.2.1≠((K6 d).length:Int)-1:=by
  intro p hp e;cases h2:p.2.2.2.1 with
  | false=>exact hs p (Zoz hn hp) h2 e
  | true =>
   have h3:=ZD8 hf.cut hp h2;have h4:=ho ((K6 d).length-1) (by omega);rw[hcnt,Uc (by omega)] at h4;have h5:0<(Zp2 (Qt d)).countP (λy=>decide (y=(((K6 d).length-1:Nat):Int))):=KB.2 ⟨_,h3,by simp;omega⟩;omega
 have netC:∀ n,Zb9 d n->n≠((K6 d).length:Int)-1->Zb9 (Qt d) n:=λn h1 h2=>by
  unfold Zb9 at *;rw[eN];omega
 have eI:∀ i y,(K1 (Qt d))[i]?=some y->(K1 d)[i]?=some y:=λi y hy=>by
  rw[hcut,Uq (Ub.1 hy).1];exact hy
 refine ⟨hl,⟨by show (List.take _ (K1 d)).length<=14;rw[Ui];omega,by rw[eN];omega,n3,?_,n5.take _,n6⟩,λy hy=>?_,λy hy=>?_,?_⟩
 ·have:Zbo (Qt d)=(Zbo d).take ((K1 d).length-1):=by
   unfold Zbo;show List.map Gu (List.take _ (K1 d))=_;rw[List.map_take]
  rw[this];exact n4.take _
 ·obtain ⟨i,hy2⟩:=U1 hy
  obtain ⟨r1,r2,r4⟩:=hi y (Ue (eI i y hy2));refine ⟨r1,r2,λn hn2=>netC n (r4 n hn2) ?_⟩;obtain ⟨j,hj⟩:=U1 hn2;exact none _ (Ue (ZgT hy2 hj))
 ·obtain ⟨r1,r2⟩:=hq y hy
  obtain ⟨j,hj⟩:=U1 hy;exact ⟨r1,netC _ r2 (none _ (Ue (ZuJ (d:=Qt d) hj)))⟩
 ·rw[ZpF]
  intro v hv;rw[eN] at hv;have:=ho v (by omega);rw[hcnt,Ud (by omega)] at this;exact this
theorem Zsl {l:List Int} (h:l.length<=1048576):sm (.sl (.int .i64)) l:=⟨by omega,λ_ _=>trivial⟩
theorem Zsm {s:List UInt8} {c:Int} {l:List Int} (h1:sm .str s) (h2:l.length<=1048576):sm ZX (s,c,l,()):=⟨h1,trivial,Zsl h2,trivial⟩
theorem Zv7 {a b c d:List Int} (h1:a.length<=1048576) (h2:b.length<=1048576) (h3:c.length<=1048576) (h4:d.length<=1048576):sm QD (a,b,c,d,()):=⟨Zsl h1,Zsl h2,Zsl h3,Zsl h4,trivial⟩
theorem ZkQ {a:List Ze} {b:List (List UInt8)} {c:List ZL} (h1:sm (.sl ZX) a) (h2:sm (.sl .str) b) (h3:sm (.sl ZaB) c):sm Yi (a,b,c,()):=⟨h1,h2,h3,trivial⟩
theorem Zj9 {a:Zp} {b:Zb} {c:List Zo} (h1:sm YV a) (h2:sm Yi b) (h3:sm (.sl QD) c):sm ZT (a,b,c,()):=⟨h1,h2,h3,trivial⟩
theorem Zxk {d:Zb} (h:sm Yi d) (a b n:Int):sm Yi (conn d a b n):=by
 obtain ⟨h1,h2,h3⟩:=Zco h;have e:conn d a b n=(K1 (conn d a b n),K6 (conn d a b n),Ga (conn d a b n),()):=rfl;rw[e];refine ZkQ ⟨by rw[XC];exact h1.1,λy hy=>?_⟩ (by rw[VF];exact h3) ⟨by rw[ZjT];exact h2.1,λy hy=>?_⟩
 ·obtain ⟨i,hi⟩:=U1 hy
  obtain ⟨x,hx,hn,_,hl,_⟩:=Zim hi;obtain ⟨s1,s2⟩:=Zm3 (Zas h1 hx);have s3:=Zu s2;exact Zsm (s:=Gu y) (c:=Gx y) (l:=Gb y) (by rw[hn];exact s1) (by rw[hl];exact s3)
 ·obtain ⟨i,hi⟩:=U1 hy
  obtain ⟨x,hx,hn,_⟩:=Zvr hi;have s1:=ZDC (Zas h2 hx);have:sm .str (GO y):=by rw[hn];exact s1
  exact ⟨this,trivial,trivial,trivial⟩
theorem ZGI {d:Zb} (h:sm Yi d) (hf:(K1 d).length<=100) (hn:(K6 d).length<=100) {x:Ze} {s:List UInt8} (hx:sm ZX x) (hs:sm .str s):sm Yi (addInst d x s):=by
 obtain ⟨h1,h2,h3⟩:=Zco h;refine ZkQ ⟨by rw[Ug,Un];omega,λy hy=>?_⟩ ⟨by rw[Ug,Un];omega,λy hy=>?_⟩ h2
 ·rcases UB.1 hy with hy | hy
  ·exact h1.2 y hy
  ·rw[Uu] at hy;rw[hy];exact hx
 ·rcases UB.1 hy with hy | hy
  ·exact h3.2 y hy
  ·rw[Uu] at hy;rw[hy];exact hs
theorem Zxl {t:Ty} {l:List t.den} (h:sm (.sl t) l) (m:Nat):sm (.sl t) (l.take m):=by
 have:=h.1;exact ⟨by rw[Ui];omega,λx hx=>h.2 x (List.mem_of_mem_take hx)⟩
theorem ZGJ {d:Zb} (h:sm Yi d):sm Yi (Qt d):=by
 obtain ⟨h1,h2,h3⟩:=Zco h;exact ZkQ (Zxl h1 _) (Zxl h3 _) h2
theorem ZuT {pl:List Pl} {ws:List Zo} {nd:Nat->Int} (h:sm (.sl QD) ws) (hp:pl.length<=1048576):sm (.sl QD) (wired pl ws nd):=by
 have h1:=h.1;refine ⟨by rw[Zkj];exact h1,λy hy=>?_⟩;obtain ⟨v,hv⟩:=U1 hy;rw[ZfI] at hv;cases hx:ws[v]? with
 | none=>rw[hx] at hv;cases hv
 | some w =>
  rw[hx] at hv;injection hv with hv
  subst hv;obtain ⟨a1,a2,a3,a4⟩:=Zm4 (Zas h hx);have:=Zbb (v:Int) pl 0;exact Zv7 (Zu a1) (Zu a2) (Zu a3) (by rw[UL];omega)
theorem ZCL {b:Za} (h:YT b) {k:Nat} {p:Pl} (hp:(places (KZ b))[k]?=some p) (h2:p.2.2.2.1=false) {n v:Int} (hn:Zb9 (KZ b) n) (hv:∀ w,(K2 b)[n.toNat]?=some w->0<=v/\v<=((K3 w).length:Int)-1):YT (moved b k p n v):=by
 have hpl:places (mvD b p n)=(places (KZ b)).set k (p.1,p.2.1,n,p.2.2.2.1,()):=QE hp n;obtain ⟨b1,b2,b3⟩:=JK h.sm;have hD:X0 (K4 b) (mvD b p n):=ZwE h.ok.1 hp h2 hn;refine ⟨⟨hD,?_,?_⟩,?_⟩
 ·show (wired (places (mvD b p n)) (K2 b) (mvN b k v)).length=(K6 (conn (KZ b) p.1 p.2.1 n)).length
  rw[Zkj,VF];exact h.ok.2.1
 ·exact Zu7 (λv w hw=>⟨_,h.ok.2.2 v w hw⟩) (by rw[hpl];exact (Zq2 h).set n v hv)
 ·have hl:=Z0 hD.few
  exact Zj9 b1 (Zxk b2 _ _ _) (ZuT b3 (by omega))
theorem ZzN {c c2:Zl} (h1:sm QC c) (h2:sm QC c2) (h:Zaw c c2=some true):(K7 c2).length=(K7 c).length:=by
 unfold Zaw at h;by_cases q:GE c=GE c2
 ·by_cases q2:((K7 c).length:Int)=((K7 c2).length:Int)
  ·omega
  ·exfalso;revert h;simp[q,q2]
 ·exfalso;revert h;simp[q]
theorem Zm5 {d:Zb} {i:Nat} {x:Ze} (hx:(K1 d)[i]?=some x) (c:Int):places ((K1 d).set i (Gu x,c,Gb x,()),K6 d,Ga d,())=places d:=by
 show cat YH 0 ((K1 d).set i (Gu x,c,Gb x,()))++cat Zba 0 (Ga d)=_;unfold places;congr 1;have hlt:=(Ub.1 hx).1;have e1:=Zil YH hx;have hx2:((K1 d).set i (Gu x,c,Gb x,()))[i]?=some (Gu x,c,Gb x,()):=Ut hlt;have e2:=Zil YH hx2;rw[e1,e2,List.take_set_of_le (UK _),List.drop_set_of_lt (by omega)];rfl
theorem Zzn {b:Za} (h:YT b) {i:Int} (h0:0<=i) {x:Ze} (hx:(K1 (KZ b))[i.toNat]?=some x) {c:Int} {c1 c2:Zl} (hc1:(K8 (K4 b))[(Gx x).toNat]?=some c1) (hc2:(K8 (K4 b))[c.toNat]?=some c2)
  (hc:0<=c/\c<=((K8 (K4 b)).length:Int)-1) (ha:(K7 c2).length=(K7 c1).length):YT (swapped b i c):=by
 obtain ⟨b1,b2,b3⟩:=JK h.sm;obtain ⟨s1,s2,s3⟩:=Zco b2;obtain ⟨⟨hl,⟨n1,n2,n3,n4,n5,n6⟩,hi,hq,ho⟩,hwn,hw⟩:=h.ok;have e:swapped b i c=(K4 b,((K1 (KZ b)).set i.toNat (Gu x,c,Gb x,()),K6 (KZ b),Ga (KZ b),()),K2 b,()):=by
  unfold swapped;rw[hx]
 have hpl:=Zm5 hx c;rw[e];have hmem:∀ y∈(K1 (KZ b)).set i.toNat (Gu x,c,Gb x,()),y∈K1 (KZ b)\/y=(Gu x,c,Gb x,()):=λy hy=>U4 hy;refine ⟨⟨⟨hl,⟨by show (List.set _ _ _).length<=14;rw[Uy];exact n1,n2,n3,?_,n5,n6⟩,λy hy=>?_,hq,?_⟩,hwn,?_⟩,?_⟩
 ·have:Zbo ((K1 (KZ b)).set i.toNat (Gu x,c,Gb x,()),K6 (KZ b),Ga (KZ b),())=Zbo (KZ b):=by
   show List.map Gu (List.set _ _ _)=_;rw[List.map_set];exact Zcn (by rw[UI,hx];rfl)
  exact this▸n4
 ·rcases hmem y hy with hy | hy
  ·exact hi y hy
  ·subst hy
   obtain ⟨r1,⟨c',r2,r3⟩,r4⟩:=hi x (Ue hx);have r2:(K8 (K4 b))[(Gx x).toNat]?=some c':=r2;rw[hc1] at r2;injection r2 with r2
   subst r2;exact ⟨hc,⟨c2,hc2,by rw[ha];exact r3⟩,r4⟩
 ·unfold ZjQ
  have:Zp2 ((K1 (KZ b)).set i.toNat (Gu x,c,Gb x,()),K6 (KZ b),Ga (KZ b),())=Zp2 (KZ b):=by
   unfold Zp2;congr 1;show List.map XU (List.set _ _ _)=_;rw[List.map_set];exact Zcn (by rw[UI,hx];rfl)
  rw[this];exact ho
 ·intro k w hk
  have:=hw k w hk;unfold sinks at *;have hpl2:places (KZ ((K4 b,((K1 (KZ b)).set i.toNat (Gu x,c,Gb x,()),K6 (KZ b),Ga (KZ b),()),K2 b,()):Za))=places (KZ b):=hpl;rw[hpl2];exact this
 ·refine Zj9 b1 (ZkQ ⟨by rw[Uy];exact s1.1,λy hy=>?_⟩ s3 s2) b3
  rcases hmem y hy with hy | hy
  ·exact s1.2 y hy
  ·subst hy
   obtain ⟨q1,q2⟩:=Zm3 (Zas s1 hx);exact Zsm q1 (Zu q2)
theorem ZBF {b:Za} (h:YT b) {n:Int} (hn:Zb9 (KZ b) n) {w:Zo} (hw:ZbO w ((sinks (KZ b) n).length:Int)) (hs:sm QD w):YT (ZDH b n w):=by
 obtain ⟨b1,b2,b3⟩:=JK h.sm;obtain ⟨hD,hwn,hW⟩:=h.ok;refine ⟨⟨hD,by show (List.set _ _ _).length=_;rw[Uy];exact hwn,?_⟩,Zj9 b1 b2 ⟨by rw[Uy];exact b3.1,λy hy=>?_⟩⟩
 ·intro k y hk
  have hk:((K2 b).set n.toNat w)[k]?=some y:=hk;rw[UQ] at hk;split at hk
  ·rename_i e
   split at hk
   ·injection hk with hk
    subst hk;rw[<-e];show ZbO w ((sinks (KZ b) ((n.toNat:Nat):Int)).length:Int);rw[show ((n.toNat:Nat):Int)=n by have:=hn.1;omega];exact hw
   ·cases hk
  ·exact hW k y hk
 ·rcases U4 hy with hy | hy
  ·exact b3.2 y hy
  ·rw[hy];exact hs
theorem Zmc {b:Za} (h:YT b) {e:Zj} {k:Nat} {p q:Pl} (hp:(places (KZ b))[k]?=some p):(places (addInst (KZ b) (Ztv b e q) (Gh e)))[ZxF b k]?=some p:=by
 unfold ZxF;by_cases hk:k<YQ (KZ b)
 ·rw[Uc hk,Zvk hk];exact hp
 ·rw[Ud hk]
  have:=Zvj (d:=KZ b) (x:=Ztv b e q) (s:=Gh e) (k:=k) (by omega);rw[show (Gb (Ztv b e q)).length=2 from rfl] at this;rw[this];exact hp
theorem ZCX {d:Zb} {k:Nat} {p:Pl} (hp:(places d)[k]?=some p) (h1:p.1<((K1 d).length:Int)\/True):p.1<((K1 d).length:Int):=by
 rcases JG hp with ⟨i,j,x,m,hx,hn,e,rfl⟩ | ⟨j,q,hq,e,rfl⟩
 ·have:=(Ub.1 hx).1
  show (i:Int)<_;omega
 ·show (-1:Int)<_
  omega
theorem ZjR {b:Za} {e:Zj} {k:Nat} {p:Pl} (hp:(places (KZ b))[k]?=some p):Zvc b e p=conn (addInst (KZ b) (Ztv b e p) (Gh e)) p.1 p.2.1 ((K6 (KZ b)).length:Int) :=
 (ZCa (ZCX hp (.inr trivial))).symm
theorem ZDR:ZbO ZyN 0:=by
 refine ⟨⟨by decide,by decide⟩,rfl,rfl,rfl,λk x hk=>?_,?_,?_,?_⟩
 ·match k,hk with
  | 0,hk =>
   injection hk with hk
   exact ⟨λ_=>⟨hk.symm,rfl⟩,λh=>by omega⟩
  | k+1,hk=>cases hk
 ·intro x hx
  rw[show Gy ZyN=[0] from rfl,Uu] at hx;omega
 ·intro x hx
  rw[show GD ZyN=[0] from rfl,Uu] at hx;omega
 ·intro x hx
  cases hx
theorem ZCq {b:Za} (h:YT b) {e:Zj} {k:Nat} {p:Pl} (hp:(places (KZ b))[k]?=some p) (h2:p.2.2.2.1=false) :
  Fits (places (addInst (KZ b) (Ztv b e p) (Gh e))) (K2 b++[ZyN]) (Zw4 (Xp b) (YQ (KZ b)) (Xp b k)):=by
 have hf:=h.ok.1.few;have hold:=Zq2 h;have hws:∀ (m:Int) (w:Zo),Zb9 (KZ b) m->(K2 b++[ZyN])[m.toNat]?=some w->(K2 b)[m.toNat]?=some w:=λm w hm hw=>by
  rw[Uq (by rw[h.ok.2.1];unfold Zb9 at hm;omega)] at hw;exact hw
 intro j q w hq hd hw;unfold Zw4;have hil:YQ (KZ b)<=YQ (KZ b):=UK _;by_cases c1:j<YQ (KZ b)
 ·rw[Uc c1]
  rw[Zvk c1] at hq;exact hold j q w hq hd (hws _ _ (JH h.ok.1 (Ue hq)) hw)
 ·rw[Ud c1]
  by_cases c2:j=YQ (KZ b)
  ·rw[Uc c2]
   have:=add_mid (d:=KZ b) (x:=Ztv b e p) (s:=Gh e) (j:=0) (by show 0<2;omega);rw[Kd,<-c2,hq] at this;have e1:q=Zfw (K1 (KZ b)).length (Ztv b e p) 0 p.2.2.1:=by
    have h3:=ZjW (i:=(K1 (KZ b)).length) (x:=Ztv b e p) (j:=0) (n:=p.2.2.1) rfl;rw[<-this] at h3;injection h3
   have e2:q.2.2.1=p.2.2.1:=by rw[e1];rfl
   rw[e2] at hw;exact hold k p w hp h2 (hws _ _ (JH h.ok.1 (Ue hp)) hw)
  ·rw[Ud c2]
   by_cases c3:j=YQ (KZ b)+1
   ·exfalso
    have:=add_mid (d:=KZ b) (x:=Ztv b e p) (s:=Gh e) (j:=1) (by show 1<2;omega);rw[<-c3,hq] at this;have h3:=ZjW (i:=(K1 (KZ b)).length) (x:=Ztv b e p) (j:=1) (n:=((K6 (KZ b)).length:Int)) rfl;rw[<-this] at h3;injection h3 with h3
    rw[h3] at hd;revert hd;show ¬(decide ((1:Int)=Wq ((2:Int)-1))=false);rw[YZ (by omega) (by omega)];simp
   ·rw[Ud c3]
    have:=Zvj (d:=KZ b) (x:=Ztv b e p) (s:=Gh e) (k:=j-2) (by omega);rw[show (Gb (Ztv b e p)).length=2 from rfl,show j-2+2=j by omega,hq] at this;exact hold (j-2) q w this.symm hd (hws _ _ (JH h.ok.1 (Ue this.symm)) hw)
theorem ZtD {α:Type} {p:α->Bool} {l:List α} (h:JB p l<0):∀ x∈l,p x=false:=by
 intro x hx;cases hp:p x with
 | false=>rfl
 | true =>
  have:=Qw.2 (Kx.2 ⟨x,hx,hp⟩);omega
theorem Zm9 {b:Za} {e:Zj} (h:Zii b e) (k2:K5 e=2) (hs:sm .str (Gh e)) {p:Pl} (hp:Zih b e p):YT (buffered b e (Gc e).toNat p):=by
 have hB:=h.blk;obtain ⟨b1,b2,b3⟩:=JK hB.sm;obtain ⟨l1,l2⟩:=h.lim k2;obtain ⟨p',c,hp',hd,hc,hk,hpins,hname,hni,hnn⟩:=h.poss.2.1 k2;have:p'=p:=by
  have:=hp'.2;rw[hp.2] at this;injection this with this
  exact this.symm
 subst this;obtain ⟨_,hcr⟩:=h.range.1 (.inr k2);have hc2:(K8 (K4 b))[(Gv e).toNat]?=some c:=by
  have:=hc;unfold atI at this;rw[Uc hcr.1] at this;exact this
 have hA:X0 (K4 b) (addInst (KZ b) (Ztv b e p') (Gh e)):=by
  refine ZFX hB.ok.1 hname (λhm=>?_) (λhm=>?_) l1 l2 hcr.1 hcr.2 hc2 hpins (JH hB.ok.1 hp.mem)
  ·obtain ⟨x,hx,e1⟩:=Kq.1 hm
   have:=ZtD hni x hx;simp[e1] at this
  ·have:=ZtD hnn _ hm
   simp at this
 have hN:Zb9 (addInst (KZ b) (Ztv b e p') (Gh e)) ((K6 (KZ b)).length:Int):=by
  unfold Zb9;show 0<=_/\_<=((K6 (KZ b)++[Gh e]).length:Int)-1;rw[Ug,Un];omega
 have hpk:=Zmc (e:=e) (q:=p') hB hp.2;have hD:X0 (K4 b) (Zvc b e p'):=by
  rw[ZjR hp.2];exact ZwE hA hpk hd hN
 have hl:=Z0 hD.few;have hwn:=hB.ok.2.1;have hpl:places (Zvc b e p')=(places (addInst (KZ b) (Ztv b e p') (Gh e))).set (ZxF b (Gc e).toNat) (p'.1,p'.2.1,((K6 (KZ b)).length:Int),p'.2.2.2.1,()):=by
  rw[ZjR hp.2];exact QE hpk _
 refine ⟨⟨hD,?_,?_⟩,?_⟩
 ·show (wired (places (Zvc b e p')) (K2 b++[ZyN]) (ZG8 b (Gc e).toNat)).length=(K6 (conn (KZ b) p'.1 p'.2.1 _)++[Gh e]).length
  rw[Zkj,Ug,Ug,VF,hwn];rfl
 ·refine Zu7 (pl:=places (Zvc b e p')) (λv w hw=>?_) ?_
  ·by_cases hv:v<(K2 b).length
   ·rw[Uq hv] at hw
    exact ⟨_,hB.ok.2.2 v w hw⟩
   ·rw[Uv (by omega)] at hw
    have:=Ue hw;rw[Uu] at this;rw[this];exact ⟨_,ZDR⟩
  ·rw[hpl]
   refine (ZCq hB hp.2 hd).set _ 0 (λw hw=>?_);rw[Up,<-hwn,Uv (UK _),KD] at hw;injection hw with hw
   rw[<-hw];exact ⟨Int.le_refl _,by show (0:Int)<=(1:Int)-1;omega⟩
 ·refine Zj9 b1 ?_ (ZuT ⟨?_,λy hy=>?_⟩ (by omega))
  ·exact ZGI (Zxk b2 _ _ _) (by rw[XC];omega) (by rw[VF];omega) (Zsm hs (by show 2<=_;omega)) hs
  ·rw[Ug,Un]
   have:=hB.ok.1.2.1.2.1;omega
  ·rcases UB.1 hy with hy | hy
   ·exact b3.2 y hy
   ·rw[Uu] at hy
    rw[hy];exact Zv7 (by decide) (by decide) (by decide) (by decide)
theorem Fits.cut {d:Zb} {ws:List Zo} {nd:Nat->Int} (h:Fits (places d) ws nd) {x:Ze} (hn:0<(K1 d).length) (hx:(K1 d)[(K1 d).length-1]?=some x) (h2:(Gb x).length=2) (m:Nat) :
  Fits (places (Qt d)) (ws.take m) (ZvQ nd (YQ (Qt d))):=by
 intro k p w hp hd hw;rw[UA] at hw;split at hw
 ·unfold ZvQ
  have hpc:=Zmk (s:=[]) hn hx;by_cases c:k<YQ (Qt d)
  ·rw[Uc c]
   exact h k p w (by rw[hpc,Zvk c];exact hp) hd hw
  ·rw[Ud c]
   have:=Zvj (d:=Qt d) (x:=x) (s:=[]) (k:=k) (by omega);rw[h2] at this;exact h (k+2) p w (by rw[hpc,this];exact hp) hd hw
 ·cases hw
theorem ZeU (d:Zb):(places d).length=YQ d+(Ga d).length:=by
 unfold places YQ;rw[Ug,ZvX]
theorem Zo7 {d:Zb} {k:Nat} {p:Pl} (hp:(places d)[k]?=some p) (n:Int):YQ (conn d p.1 p.2.1 n)=YQ d:=by
 have h1:=ZeU d;have h2:=ZeU (conn d p.1 p.2.1 n);rw[QE hp,Uy,ZjT] at h2;omega
theorem ZoN {b:Za} (h:YT b) (hL:ZmE b) {k:Nat} {p:Pl} {m:Int} (hs:sinks (KZ b) (((K6 (KZ b)).length:Int)-1)=[(k:Int)]) (hp:(places (KZ b))[k]?=some p) (hpi:p.1≠((K1 (KZ b)).length:Int)-1)
  (hm:∀ x,(K1 (KZ b))[(K1 (KZ b)).length-1]?=some x->atI (Gb x) 0=some m):YT (ZpU b k p m):=by
 obtain ⟨b1,b2,b3⟩:=JK h.sm;obtain ⟨k',p',hs',hp',hpn,hpd,hpi'⟩:=hL.sink h;have ek:k=k':=by
  rw[hs] at hs';injection hs' with hs' _
  omega
 subst ek;rw[hp] at hp';injection hp' with hp'
 subst hp';obtain ⟨x,c,w,m',hn,hx,hc,hk1,hk2,hl2,hm',hl,hne,hnm,hw,hs1,hs2,hp1,hc0⟩:=hL;have em:m'=m:=by
  have:=hm x hx;rw[hm'] at this;injection this
 subst em;have hD:=h.ok.1;have hwn:=h.ok.2.1;have hm0:(Gb x)[0]?=some m':=hm';have hl1:(Gb x)[1]?=some (((K6 (KZ b)).length:Int)-1):=hl;have hmn:=(hD.2.2.1 x (Ue hx)).2.2 m' (Ue hm0);have hlx:XU x=((K6 (KZ b)).length:Int)-1:=by
  have:=Zmf (x:=x) (by omega);rw[hl2,show 2-1=1 from rfl,hl1] at this;injection this with this
  exact this.symm
 have hC:X0 (K4 b) (conn (KZ b) p.1 p.2.1 m'):=ZwE hD hp hpd hmn;have hn2:0<(K1 (conn (KZ b) p.1 p.2.1 m')).length:=by rw[XC];exact hn
 have hx2:(K1 (conn (KZ b) p.1 p.2.1 m'))[(K1 (conn (KZ b) p.1 p.2.1 m')).length-1]?=some x:=by
  have hy:(K1 (conn (KZ b) p.1 p.2.1 m'))[(K1 (conn (KZ b) p.1 p.2.1 m')).length-1]?=some ((K1 (conn (KZ b) p.1 p.2.1 m'))[(K1 (conn (KZ b) p.1 p.2.1 m')).length-1]'(by omega)):=Ua _;generalize (K1 (conn (KZ b) p.1 p.2.1 m'))[(K1 (conn (KZ b) p.1 p.2.1 m')).length-1]'(by omega)=y at hy;obtain ⟨x',hx',_,_,_,he,_⟩:=Zim hy;rw[XC,hx] at hx';injection hx' with hx'
  rw[hy,hx',he (by rw[XC];omega)]
 have hsn:∀ q∈places (conn (KZ b) p.1 p.2.1 m'),q.2.2.2.1=false->q.2.2.1≠((K6 (conn (KZ b) p.1 p.2.1 m')).length:Int)-1:=by
  intro q hq hd e;rw[VF] at e;rw[QE hp] at hq;obtain ⟨j,hj⟩:=U1 hq;rw[UQ] at hj;split at hj
  ·split at hj
   ·injection hj with hj
    subst hj;exact hne e
   ·cases hj
  ·rename_i hjk
   have h3:=ZoJ hj e hd;have h4:(sinks (KZ b) (((K6 (KZ b)).length:Int)-1))[nth (places (KZ b)) (((K6 (KZ b)).length:Int)-1) j]?=some (j:Int):=h3;rw[hs] at h4;have h5:=Ue h4;rw[Uu] at h5;exact absurd (by omega) hjk
 have hU:X0 (K4 b) (unD b p m'):=ZGe hC hn2 hx2 (by rw[VF];exact hlx) hsn;have hins:YQ (unD b p m')=YQ (KZ b)-2:=by
  have h1:=ZlI hn2 hx2 hl2;have h2:=Zo7 hp m';unfold unD;omega
 have hpl:=Z0 hU.few;refine ⟨⟨hU,?_,?_⟩,?_⟩
 ·show (wired (places (unD b p m')) ((K2 b).take ((K2 b).length-1)) (unN b k)).length=((K6 (conn (KZ b) p.1 p.2.1 m')).take ((K6 (conn (KZ b) p.1 p.2.1 m')).length-1)).length
  rw[Zkj,Ui,Ui,VF,hwn]
 ·refine Zu7 (pl:=places (unD b p m')) (λv w hw=>?_) ?_
  ·rw[UA] at hw
   split at hw
   ·exact ⟨_,h.ok.2.2 v w hw⟩
   ·cases hw
  ·have h1:Fits (places (conn (KZ b) p.1 p.2.1 m')) (K2 b) (mvN b k (Xp b (YQ (KZ b)-2))):=by
    rw[QE hp];refine (Zq2 h).set m' _ (λw' hw'=>?_);have h5:=ZgT hx hm0;rw[Kd,ZtF hn hx hl2] at h5;refine Zq2 h _ _ w' h5 ?_ hw';show decide ((0:Int)=Wq (((Gb x).length:Int)-1))=false;rw[hl2,YZ (by omega) (by omega)];decide
   have h2:=h1.cut hn2 hx2 hl2 ((K2 b).length-1);have h3:YQ (Qt (conn (KZ b) p.1 p.2.1 m'))=YQ (KZ b)-2:=hins;rw[h3] at h2;exact h2
 ·exact Zj9 b1 (ZGJ (Zxk b2 _ _ _)) (ZuT (Zxl b3 _) (by omega))
theorem ZqT (t:Zw) (ht:sm Xa t):ZkS t=some t:=by
 have e1:=Zfu (GM t) (Zu (t:=.int .i64) ht.1);have e2:=Zfu (Gt t) (Zu (t:=.int .i64) ht.2.1);have e3:=Zfu (Gr t) (Zu (t:=.int .i64) ht.2.2.1);unfold ZkS;rw[e1,e2,e3];rfl
theorem Zkd (l:List Zw) (hl:sm (.sl Xa) l):Zbg l=some l:=by
 have h1:=Zu hl;unfold Zbg;have:=YK (l:=l) (λk=>(l.take k,(k:Int),())) (step:=λv=>Jk l v.1 v.2.1) (good:=l) (λk x hx hk=>by
  have hg:((l.take k).length+[x].length)*72<=140737488355328:=by rw[Ui,Un];omega
  simp only[Jk,show (k:Int)<(l.length:Int) by omega,Uj,Zm,hx,Bq,ZqT x (Zas hl hx),Zg hg,Y4 (show k<=1048576 by omega)];rw[Yu hx]) (by
  simp only[Jk,Uf,Uh,Um])
 simpa using this
theorem Zsu (c:Zl) (hs:sm QC c):ZkU c=some c:=by
 have p1:sm (.sl Ze1) (K7 c):=hs.2.2.1;have p2:sm (.sl ZfO) (Gj c):=hs.2.2.2.1;have p3:sm (.sl (.int .i64)) (GH c):=hs.2.2.2.2.1;have l1:=Zu p1;have l2:=Zu p2;have l3:=Zu p3;unfold ZkU;rw[Zg (by rw[Ux];omega),Zfu _ l3,Bq];have:=YK (l:=Gj c) (λk=>((k:Int),(Gj c).take k,())) (step:=λv=>Zdj c (GH c) v.1 v.2.1) (good:=c) (λk x hx hk=>by
  obtain ⟨q1,q2⟩:=ZC8 (Zas p2 hx);have hg:∀ y:ZC,(((Gj c).take k).length+[y].length)*80<=140737488355328:=λy=>by rw[Ui,Un];omega
  simp only[Zdj,show (k:Int)<((Gj c).length:Int) by omega,Uj,Zm,hx,Bq,Zkd _ q1,Zkd _ q2,Zg (hg _),Y4 (show k<=1048576 by omega)];rw[Yu hx]) (by
  simp only[Zdj,Uf,Uh,Um];rfl)
 simpa using this
theorem ZoK (a:Zp) (ha:sm YV a):Zcq a=some a:=by
 have hc:=Ztf ha;have h1:=Zu hc;unfold Zcq;have:=YK (l:=K8 a) (λk=>((k:Int),(K8 a).take k,())) (step:=λv=>VZ a v.1 v.2.1) (good:=a) (λk x hx hk=>by
  have hg:(((K8 a).take k).length+[x].length)*112<=140737488355328:=by rw[Ui,Un];omega
  simp only[VZ,show (k:Int)<((K8 a).length:Int) by omega,Uj,Zm,hx,Bq,Zsu x (Zas hc hx),Zg hg,Y4 (show k<=1048576 by omega)];rw[Yu hx]) (by
  simp only[VZ,Uf,Uh,Um])
 simpa using this
theorem ZpQ (d:Zb) (hd:sm Yi d):ZkW d=some d:=by
 obtain ⟨s1,s2,s3⟩:=Zco hd;have l1:=Zu s1;have l2:=Zu s2;have l3:=Zu s3;unfold ZkW;rw[Zg (by rw[Ux];omega),Zg (by rw[Ux];omega)];have:=YK (l:=K1 d) (λk=>((k:Int),(K1 d).take k,())) (step:=λv=>Zdl d v.1 v.2.1) (good:=d) (λk x hx hk=>by
  have hx2:=Zfu (Gb x) (Zu (Zm3 (Zas s1 hx)).2);have hg:∀ y:Ze,(((K1 d).take k).length+[y].length)*48<=140737488355328:=λy=>by rw[Ui,Un];omega
  simp only[Zdl,show (k:Int)<((K1 d).length:Int) by omega,Uj,Zm,hx,Bq,hx2,Zg (hg _),Y4 (show k<=1048576 by omega)];rw[Yu hx]) (by
  simp only[Zdl,Uf,Uh,Um];rfl)
 simpa using this
theorem Zxn (b:Za) (hb:sm ZT b):ZkX b=some b:=by
 obtain ⟨b1,b2,b3⟩:=JK hb;have h1:=Zu b3;unfold ZkX;rw[ZoK _ b1,Bq,ZpQ _ b2,Bq];have:=YK (l:=K2 b) (λk=>((k:Int),(K2 b).take k,())) (step:=λv=>Zdn b (K4 b) (KZ b) v.1 v.2.1) (good:=b) (λk x hx hk=>by
  have hg:(((K2 b).take k).length+[x].length)*96<=140737488355328:=by rw[Ui,Un];omega
  simp only[Zdn,show (k:Int)<((K2 b).length:Int) by omega,Uj,Zm,hx,Bq,Zl8 x (Zas b3 hx),Zg hg,Y4 (show k<=1048576 by omega)];rw[Yu hx]) (by
  simp only[Zdn,Uf,Uh,Um])
 simpa using this
theorem ZiP {d:Zb} {k:Nat} {p:Pl} (hp:(places d)[k]?=some p) (n:Int):Zbi d p n=some (conn d p.1 p.2.1 n):=by
 unfold Zbi conn;rcases JG hp with ⟨i,j,x,m,hx,hn,e,rfl⟩ | ⟨j,q,hq,e,rfl⟩
 ·have c:¬((i:Int)<0):=by omega
  simp only[Zfw,GL,ZE.pin,Ud c,Zm,hx,Bq,Up];have hn2:x.2.2.1[j]?=some m:=hn;rw[hn2];rfl
 ·have c:((-1:Int)<0):=by omega
  simp only[GL,ZE.pin,Uc c,Zm,hq,Bq,Up];rfl
def ZBJ (pl:List Pl) (ws:List Zo) (nd:Nat->Int) (k:Nat):List Zo:=cat (λv w=>[if v<k then Zf8 w ((cat (Ji (v:Int)) 0 pl).map (λk=>nd k.toNat)) else w]) 0 ws
theorem Zmp (pl:List Pl) (ws:List Zo) (nd:Nat->Int) (k v:Nat):(ZBJ pl ws nd k)[v]?=(ws[v]?).map (λw=>if v<k then Zf8 w ((cat (Ji (v:Int)) 0 pl).map (λk=>nd k.toNat)) else w):=by
 unfold ZBJ;rw[Zbs,Uw]
theorem Zu8 (pl:List Pl) (ws:List Zo) (nd:Nat->Int) (k:Nat):(ZBJ pl ws nd k).length=ws.length:=ZaF _ _
theorem ZBL (pl:List Pl) (ws:List Zo) (nd:Nat->Int):ZBJ pl ws nd 0=ws:=by
 apply UD;intro v;rw[Zmp];simp
theorem ZDl (pl:List Pl) (ws:List Zo) (nd:Nat->Int):ZBJ pl ws nd ws.length=wired pl ws nd:=by
 apply UD;intro v;rw[Zmp,ZfI];cases hv:ws[v]? with
 | none=>rfl
 | some w =>
  have:=(Ub.1 hv).1;simp only[UY,Uc this]
theorem ZBK {pl:List Pl} {ws:List Zo} {nd:Nat->Int} {k:Nat} {w:Zo} (hw:ws[k]?=some w):(ZBJ pl ws nd k)[k]?=some w/\(ZBJ pl ws nd k).set k (Zf8 w ((cat (Ji (k:Int)) 0 pl).map (λk=>nd k.toNat)))=ZBJ pl ws nd (k+1):=by
 constructor
 ·rw[Zmp,hw];simp
 ·apply UD
  intro v;rw[UQ,Zu8];split
  ·rename_i e
   subst e;rw[Uc (Ub.1 hw).1,Zmp,hw,UY,Uc (by omega)]
  ·rw[Zmp,Zmp]
   congr 1;funext w';by_cases h:v<k
   ·rw[Uc h,Uc (by omega)]
   ·rw[Ud h,Ud (by omega)]
theorem ZjM {b:Za} {nodes:List Int} (hf:Few (KZ b)) (hl:nodes.length=(places (KZ b)).length) (hw:(K2 b).length<=1048576) :
  VA b nodes=some (K4 b,KZ b,wired (places (KZ b)) (K2 b) (Zr8 nodes),()):=by
 have hpl:=Z0 hf;unfold VA;have:=YK (l:=K2 b) (λk=>((k:Int),ZBJ (places (KZ b)) (K2 b) (Zr8 nodes) k,())) (step:=λv=>ZaP b nodes v.1 v.2.1) (good:=(K4 b,KZ b,wired (places (KZ b)) (K2 b) (Zr8 nodes),())) (λk w hk hlt=>by
  obtain ⟨a1,a2⟩:=ZBK (nd:=Zr8 nodes) (pl:=places (KZ b)) hk;have hlc:(sinks (KZ b) (k:Int)).length<=(places (KZ b)).length:=Zbb (k:Int) (places (KZ b)) 0;simp only[ZaP];rw[Uc (show (k:Int)<(((ZBJ (places (KZ b)) (K2 b) (Zr8 nodes) k).length:Nat):Int) by rw[Zu8];omega),XZ _ _ hf,Bq];refine YK (l:=sinks (KZ b) (k:Int)) (λi=>(((sinks (KZ b) (k:Int)).take i).map (λx=>Zr8 nodes x.toNat),(i:Int),())) (λi x hx hi=>?_) ?_
  ·obtain ⟨j,p,hp,ex,hn,h2,hnth⟩:=ZuQ (pl:=places (KZ b)) hx
   have hj:=(Ub.1 hp).1;have hnj:nodes[j]?=some (Zr8 nodes j):=by
    unfold Zr8;rw[Ua (by omega)];rfl
   simp only[ZdK,show (i:Int)<((sinks (KZ b) (k:Int)).length:Int) by omega,Uj,Zm,hx,Bq];have et:=Yu hx;subst ex;rw[Zm,hnj,Bq,Zg (by rw[UL,Ui,Un];omega),Y4 (show i<=1048576 by omega),et,UV];rfl
  ·simp only[ZdK,Uf,Uh,Zm,a1,Bq,Y4 (show k<=1048576 by omega),Up,Um]
   rw[<-a2];rfl) (by
  simp only[ZaP];rw[Ud (show ¬(((K2 b).length:Nat):Int)<(((ZBJ (places (KZ b)) (K2 b) (Zr8 nodes) (K2 b).length).length:Nat):Int) by rw[Zu8];omega),ZDl])
 rw[ZBL] at this;exact this
theorem ZpC (b:Za):Zr8 (Zbl b)=Xp b:=by
 funext k;unfold Zr8;by_cases hk:k<(places (KZ b)).length
 ·rw[ZlU hk];rfl
 ·rw[UC (by rw[Za9];omega)]
  unfold Xp;rw[UC (by omega)];rfl
theorem ZvE {b:Za} (h:YT b) {k:Nat} {p:Pl} (hp:(places (KZ b))[k]?=some p) (h2:p.2.2.2.1=false) {n v:Int} (hn:Zb9 (KZ b) n) :
  QT (K4 b,conn (KZ b) p.1 p.2.1 n,K2 b,()) (Zp8 Key (.int .i64) (ZbG (places (KZ b)) (Xp b) (places (KZ b)).length) (Zx7 p) v)=some (moved b k p n v):=by
 have hM:=((Zmi (KZ b) (Xp b)).put hp v).set hp n;rw[<-QE hp n] at hM;have hwl:(K2 b).length<=1048576:=Zu (JK h.sm).2.2;have hn1:n<((K2 b).length:Int):=by rw[h.ok.2.1];have:=hn.2;omega
 exact ZiD (b:=(K4 b,conn (KZ b) p.1 p.2.1 n,K2 b,())) (h.ok.1.few.conn p.1 p.2.1 n) hM (by
  show ZmF (places (conn (KZ b) p.1 p.2.1 n)) (K2 b).length;rw[QE hp];refine ZmF.set (λq hq hd=>?_) hn.1 hn1;have:=JH h.ok.1 hq;rw[h.ok.2.1];exact ⟨this.1,by have:=this.2;omega⟩) hwl
theorem Zwb {b:Za} (h:YT b) {k:Nat} {p:Pl} (hp:(places (KZ b))[k]?=some p) (n v:Int) :
  VA (K4 b,conn (KZ b) p.1 p.2.1 n,K2 b,()) ((Zbl b).set k v)=some (moved b k p n v):=by
 have hk:=(Ub.1 hp).1;have hf:=h.ok.1.few.conn p.1 p.2.1 n;have e:=ZjM (b:=(K4 b,conn (KZ b) p.1 p.2.1 n,K2 b,())) (nodes:=(Zbl b).set k v) hf (by
  show ((Zbl b).set k v).length=(places (conn (KZ b) p.1 p.2.1 n)).length;rw[Uy,Za9,QE hp,Uy]) (Zu (JK h.sm).2.2)
 rw[e];have e2:Zr8 ((Zbl b).set k v)=mvN b k v:=by
  funext j;rw[ZuB (by rw[Za9];exact hk),ZpC];rfl
 rw[e2];rfl
theorem ZAM {b:Za} (h:YT b):ZmF (places (KZ b)) (K2 b).length:=λq hq _=>by
 have:=JH h.ok.1 hq;rw[h.ok.2.1];exact ⟨this.1,by have:=this.2;omega⟩
theorem Zzs (pl:List Pl) (ws:List Zo) (nd:Nat->Int) {w w':Zo} (h:∀ l,Zf8 w l=Zf8 w' l):wired pl (ws++[w]) nd=wired pl (ws++[w']) nd:=by
 unfold wired;rw[ZeK,ZeK];simp only[cat,h]
theorem ZsR {b:Za} {e:Zj} (h:Zii b e) (k2:K5 e=2) (hs:sm .str (Gh e)) {p:Pl} (hp:Zih b e p) (hd:p.2.2.2.1=false):Zc9 b e=some (buffered b e (Gc e).toNat p):=by
 have hB:=h.blk;have hf:=hB.ok.1.few;have h14:=hf.insts;have h30:=hB.ok.1.2.1.2.1;have hwn:=hB.ok.2.1;have hR:=Zm9 h k2 hs hp;have hpk:=Zmc (e:=e) (q:=p) hB hp.2;have hM0:=Zmi (KZ b) (Xp b);have hv:Zmh Key (.int .i64) (ZbG (places (KZ b)) (Xp b) (places (KZ b)).length) (p.1,p.2.1,())=some (Xp b (Gc e).toNat):=hM0 _ p hp.2 hd;have hM1:=hM0.add (x:=Ztv b e p) (s:=Gh e) rfl (by omega) (Xp b (Gc e).toNat);have hM2:=(hM1.put hpk 0).set hpk ((K6 (KZ b)).length:Int);rw[<-QE hpk,<-ZjR hp.2] at hM2;have hN:=ZAM hR;have hl:(K2 (buffered b e (Gc e).toNat p)).length=(K2 b++[ZyN]).length:=Zkj _ _ _;rw[hl] at hN;have hC:=ZiD (b:=(K4 b,Zvc b e p,K2 b++[ZyN],())) hR.ok.1.few hM2 hN (by
  show (K2 b++[ZyN]).length<=_;rw[Ug,Un];omega)
 have hS:=ZjE (b:=(K4 b,addInst (KZ b) (Ztv b e p) (Gh e),K2 b++[ZyN],())) hpk ((K6 (KZ b)).length:Int);have eS:conn (KZ ((K4 b,addInst (KZ b) (Ztv b e p) (Gh e),K2 b++[ZyN],()):Za)) p.1 p.2.1 ((K6 (KZ b)).length:Int)=Zvc b e p:=(ZjR hp.2).symm;rw[eS] at hS;unfold Zc9;rw[ZiF hB,Bq,ZN _ hf,Bq,hp.at,Bq,
  show Xh (K6 (KZ b))=some ((K6 (KZ b)).length:Int) from rfl,Bq,
  show Qv (K1 (KZ b))=some ((K1 (KZ b)).length:Int) from rfl,Bq,
  Zg (by rw[Un];omega),Zg (by rw[Un];omega),Zg (by rw[Un];omega)]
 refine Eq.trans (UM (λo=>Option.bind o _) hS) ?_;rw[Bq];have e3:Option.getD (Zmh Zc0 (Ty.int IntKind.i64) (ZbG (places (KZ b)) (Xp b) (places (KZ b)).length) (Gq p,ZH.pin p,())) (0:Int)=Xp b (Gc e).toNat:=by
  have:Zmh Zc0 (Ty.int IntKind.i64) (ZbG (places (KZ b)) (Xp b) (places (KZ b)).length) (Gq p,ZH.pin p,())=some (Xp b (Gc e).toNat):=hv;rw[this];rfl
 rw[e3];refine Eq.trans (UM (λo=>Option.bind o _) hC) ?_;rfl
theorem ZAK {b:Za} {k:Nat} (hk:k<(places (KZ b)).length) (v:Int) (hv:v=Xp b k) :
  Zr8 (((Zbl b).take (YQ (KZ b))++[v,0]++(Zbl b).drop (YQ (KZ b))).set (ZxF b k) 0)=ZG8 b k:=by
 have h2:=ZeU (KZ b);have hm:YQ (KZ b)<=(Zbl b).length:=by rw[Za9];omega
 funext j;rw[ZuB (by
  rw[Ug,Ug,Ui,UR,Za9];unfold ZxF;simp only[Uz,Ux];split<;>omega),ZCN hm,ZpC,hv]
 rfl
theorem Zth {b:Za} {e:Zj} (h:Zii b e) (k2:K5 e=2) (hs:sm .str (Gh e)) {p:Pl} (hp:Zih b e p) (hd:p.2.2.2.1=false):Zb8 b e=some (buffered b e (Gc e).toNat p):=by
 have hB:=h.blk;have hf:=hB.ok.1.few;have hpl:=Z0 hf;have h14:=hf.insts;have h8:=hf.ports;have h30:=hB.ok.1.2.1.2.1;have hwn:=hB.ok.2.1;have hk:=(Ub.1 hp.2).1;have h0:=hp.1;have h2:=ZeU (KZ b);have hR:=Zm9 h k2 hs hp;have hW:Wq (((Zbl b).length:Int)-((Ga (KZ b)).length:Int))=(YQ (KZ b):Int):=by
  rw[Za9,YZ (by omega) (by omega)];omega
 have hdr:List.take ((Zbl b).length-YQ (KZ b)) (List.drop (YQ (KZ b)) (Zbl b))=List.drop (YQ (KZ b)) (Zbl b):=Kt (by rw[UR];exact UK _);have hlump:ZdU 1 0=some (([-1],[0],[0],[0],()):Zo):=by
  unfold ZdU;rw[Zg (by omega),Zg (by omega),Zg (by omega),Zg (by omega)];rfl
 have hln:((Zbl b).take (YQ (KZ b))++[Xp b (Gc e).toNat,0]++(Zbl b).drop (YQ (KZ b))).length=(places (KZ b)).length+2:=by
  rw[Ug,Ug,Ui,UR,Za9];simp only[Uz,Ux];omega
 have hbk:ZxF b (Gc e).toNat<(places (KZ b)).length+2:=by
  unfold ZxF;split<;>omega
 have hpl2:(places (Zvc b e p)).length=(places (KZ b)).length+2:=by
  have h3:=ZeU (Zvc b e p);rw[ZjR hp.2,QE (Zmc (e:=e) (q:=p) hB hp.2),Uy];rw[Zif,Ug,Ug,Vx,ZvX,h2];unfold YQ Ztv;show _+2+_=_;omega
 have hA:=ZjM (b:=(K4 b,Zvc b e p,K2 b++[([-1],[0],[0],[0],())],())) (nodes:=((Zbl b).take (YQ (KZ b))++[Xp b (Gc e).toNat,0]++(Zbl b).drop (YQ (KZ b))).set (ZxF b (Gc e).toNat) 0) hR.ok.1.few (by
  show (List.set _ _ _).length=(places (Zvc b e p)).length;rw[Uy,hln,hpl2]) (by
  show (K2 b++[([-1],[0],[0],[0],())]).length<=_;rw[Ug,Un];omega)
 rw[ZAK hk _ rfl] at hA;have hA2:VA (K4 b,Zvc b e p,K2 b++[([-1],[0],[0],[0],())],()) ((((Zbl b).take (YQ (KZ b))++[Xp b (Gc e).toNat,0]++(Zbl b).drop (YQ (KZ b)))).set (ZxF b (Gc e).toNat) 0)=some (buffered b e (Gc e).toNat p):=by
  rw[hA];show some (K4 b,Zvc b e p,wired (places (Zvc b e p)) (K2 b++[([-1],[0],[0],[0],())]) (ZG8 b (Gc e).toNat),())=_;rw[Zzs _ _ _ (w:=([-1],[0],[0],[0],())) (w':=ZyN) (λl=>rfl)];rfl
 unfold Zb8;rw[Yg _ hf,Bq,hp.at,Bq,Zhb hB,Bq,YD hp.1 (ZlU hk),Bq,hW];simp only[Up,Int.toNat_zero,Nat.sub_zero,KF,hdr];have hci:(K1 (conn (KZ b) p.1 p.2.1 ((K2 b).length:Int))).length=(K1 (KZ b)).length:=XC;have hcn:(K6 (conn (KZ b) p.1 p.2.1 ((K2 b).length:Int))).length=(K6 (KZ b)).length:=by rw[VF]
 have hl1:(List.take (YQ (KZ b)) (Zbl b)).length=YQ (KZ b):=by rw[Ui,Za9];omega
 have hl2:(List.drop (YQ (KZ b)) (Zbl b)).length=(Ga (KZ b)).length:=by rw[UR,Za9];omega
 rw[Zg (by omega),Zg (by rw[Za9];omega),Zfu _ (by omega),Bq,
  Zg (by rw[hl1];simp only[Uz,Ux];omega),Zg (by omega),Zg (by rw[Ug,hl1,hl2];simp only[Uz,Ux];omega),
  ZiP hp.2,Bq]
 have hx:∀ (i:Nat),i<(places (KZ b)).length+2->∃ y,((Zbl b).take (YQ (KZ b))++[Xp b (Gc e).toNat,0]++(Zbl b).drop (YQ (KZ b)))[i]?=some y:=λi hi=>⟨_,Ua (by rw[hln];exact hi)⟩;have hD:((K1 (conn (KZ b) p.1 p.2.1 ((K2 b).length:Int))++[(Gh e,Gv e,[ZE.net p,((K2 b).length:Int)],())],K6 (conn (KZ b) p.1 p.2.1 ((K2 b).length:Int))++[Gh e],(conn (KZ b) p.1 p.2.1 ((K2 b).length:Int)).snd.snd):Zb)=Zvc b e p:=by
  rw[hwn];rfl
 by_cases hc:YQ (KZ b)<=(Gc e).toNat
 ·have hbk2:ZxF b (Gc e).toNat=(Gc e).toNat+2:=by unfold ZxF;rw[Ud (by omega)]
  obtain ⟨y,hy⟩:=hx ((Gc e).toNat+2) (by omega);rw[Uc (by omega),YZ (n:=Gc e+2) (by omega) (by omega),show Gc e+2=(((Gc e).toNat+2:Nat):Int) by omega,Zm,hy,Bq,
   Zg (by rw[hci,Un];omega),Zg (by rw[hcn,Un];omega),hlump,Bq,Zg (by rw[Un];omega),Up,<-hbk2,hD]
  refine Eq.trans (UM (λo=>Option.bind o _) hA2) ?_;rfl
 ·have hbk2:ZxF b (Gc e).toNat=(Gc e).toNat:=by unfold ZxF;rw[Uc (by omega)]
  obtain ⟨y,hy⟩:=hx (Gc e).toNat (by omega);rw[Ud (by omega),YD hp.1 hy,Bq,
   Zg (by rw[hci,Un];omega),Zg (by rw[hcn,Un];omega),hlump,Bq,Zg (by rw[Un];omega),hD]
  rw[hbk2] at hA2;refine Eq.trans (UM (λo=>Option.bind o _) hA2) ?_;rfl
theorem ZqU {b:Za} (h:YT b) (hL:ZmE b) {k:Nat} {p:Pl} {m:Int} (hs:sinks (KZ b) (((K6 (KZ b)).length:Int)-1)=[(k:Int)]) (hp:(places (KZ b))[k]?=some p) (hpi:p.1≠((K1 (KZ b)).length:Int)-1)
  (hm:∀ x,(K1 (KZ b))[(K1 (KZ b)).length-1]?=some x->atI (Gb x) 0=some m):ZgF b=some (ZpU b k p m):=by
 have hR:=ZoN h hL hs hp hpi hm;obtain ⟨hn,x,hx,hl2⟩:=hL.two;have hmx:=hm x hx;have hf:=h.ok.1.few;have hpl:=Z0 hf;have h14:=hf.insts;have h8:=hf.ports;have h30:=h.ok.1.2.1.2.1;have hwn:=h.ok.2.1;have hk:=(Ub.1 hp).1;have h2:=ZeU (KZ b);have hi2:=ZlI hn hx hl2;have hpos:1<=(K6 (KZ b)).length:=by
  have:=JH h.ok.1 (Ue hp);unfold Zb9 at this;omega
 have hx2:atI (K1 (KZ b)) (((K1 (KZ b)).length:Int)-1)=some x:=YD (by omega) (by rw[<-hx];congr 1;omega);have t1:Int.toNat (((K1 (KZ b)).length:Int)-1)=(K1 (KZ b)).length-1:=by omega
 have hset:((List.set (K1 (KZ b)) ((K1 (KZ b)).length-1) x,(KZ b).snd):Zb)=KZ b:=by rw[Zcn hx]
 have hW1:Wq (((K2 b).length:Int)-1)=(((K2 b).length-1:Nat):Int):=by rw[YZ (by omega) (by omega)];omega
 have hW2:Wq (((Zbl b).length:Int)-((Ga (KZ b)).length:Int))=(YQ (KZ b):Int):=by rw[Za9,YZ (by omega) (by omega)];omega
 have hW3:Wq ((YQ (KZ b):Int)-2)=((YQ (KZ b)-2:Nat):Int):=by rw[YZ (by omega) (by omega)];omega
 have hW4:Wq (((K1 (KZ b)).length:Int)-1)=(((K1 (KZ b)).length-1:Nat):Int):=by rw[YZ (by omega) (by omega)];omega
 have hsk:QA (KZ b) (((K2 b).length-1:Nat):Int)=some [(k:Int)]:=by
  rw[XZ _ _ hf,show (((K2 b).length-1:Nat):Int)=((K6 (KZ b)).length:Int)-1 by omega,hs]
 have hx3:atI (K1 (KZ b)) (((K1 (KZ b)).length-1:Nat):Int)=some x:=by rw[Zm];exact hx
 have hls:(List.set (Zbl b) k (Xp b (YQ (KZ b)-2))).length=(places (KZ b)).length:=by rw[Uy,Za9]
 have hdr:List.take ((List.set (Zbl b) k (Xp b (YQ (KZ b)-2))).length-YQ (KZ b)) (List.drop (YQ (KZ b)) (List.set (Zbl b) k (Xp b (YQ (KZ b)-2))))=List.drop (YQ (KZ b)) (List.set (Zbl b) k (Xp b (YQ (KZ b)-2))):=Kt (by rw[UR];exact UK _);have hci:(K1 (conn (KZ b) p.1 p.2.1 m)).length=(K1 (KZ b)).length:=XC;have hcn:(K6 (conn (KZ b) p.1 p.2.1 m)).length=(K6 (KZ b)).length:=by rw[VF]
 have hl1:(List.take (YQ (KZ b)-2) (List.set (Zbl b) k (Xp b (YQ (KZ b)-2)))).length=YQ (KZ b)-2:=by rw[Ui,hls];omega
 have hl3:(List.drop (YQ (KZ b)) (List.set (Zbl b) k (Xp b (YQ (KZ b)-2)))).length=(Ga (KZ b)).length:=by rw[UR,hls];omega
 have hins:YQ (unD b p m)=YQ (KZ b)-2:=by
  have hn2:0<(K1 (conn (KZ b) p.1 p.2.1 m)).length:=by rw[XC];exact hn
  have hx4:(K1 (conn (KZ b) p.1 p.2.1 m))[(K1 (conn (KZ b) p.1 p.2.1 m)).length-1]?=some ((K1 (conn (KZ b) p.1 p.2.1 m))[(K1 (conn (KZ b) p.1 p.2.1 m)).length-1]'(by omega)):=Ua _;generalize (K1 (conn (KZ b) p.1 p.2.1 m))[(K1 (conn (KZ b) p.1 p.2.1 m)).length-1]'(by omega)=x' at hx4;obtain ⟨y,hy,_,_,hyl,_⟩:=Zim hx4;rw[XC,hx] at hy;injection hy with hy
  have h5:=ZlI hn2 hx4 (by rw[hyl,<-hy,hl2]);have h6:=Zo7 hp m;unfold unD;omega
 have hup:(places (unD b p m)).length=(places (KZ b)).length-2:=by
  have h5:=ZeU (unD b p m);have h6:(Ga (unD b p m)).length=(Ga (KZ b)).length:=ZjT;omega
 have hA:=ZjM (b:=(K4 b,unD b p m,(K2 b).take ((K2 b).length-1),())) (nodes:=(Zbl b |>.set k (Xp b (YQ (KZ b)-2))).take (YQ (KZ b)-2)++(Zbl b |>.set k (Xp b (YQ (KZ b)-2))).drop (YQ (KZ b))) hR.ok.1.few (by
  show (List.take _ _++List.drop _ _).length=(places (unD b p m)).length;rw[Ug,hl1,hl3,hup];omega) (by
  show (List.take _ _).length<=_;rw[Ui];omega)
 have hnd:Zr8 ((Zbl b |>.set k (Xp b (YQ (KZ b)-2))).take (YQ (KZ b)-2)++(Zbl b |>.set k (Xp b (YQ (KZ b)-2))).drop (YQ (KZ b)))=unN b k:=by
  funext j;have:=ZCM (l:=(Zbl b).set k (Xp b (YQ (KZ b)-2))) (m:=YQ (KZ b)-2) (by omega) j;rw[show YQ (KZ b)-2+2=YQ (KZ b) by omega] at this;rw[this];unfold unN;congr 1;funext i;rw[ZuB (by rw[Za9];exact hk),ZpC];rfl
 rw[hnd] at hA;have hD:((List.take ((K1 (KZ b)).length-1) (K1 (conn (KZ b) p.1 p.2.1 m)),List.take ((K2 b).length-1) (K6 (conn (KZ b) p.1 p.2.1 m)),(conn (KZ b) p.1 p.2.1 m).snd.snd):Zb)=unD b p m:=by
  unfold unD Qt;rw[XC,VF,hwn]
 unfold ZgF;rw[Zhb h,Bq,hW1,hsk,Bq,show atI [(k:Int)] 0=some (k:Int) from rfl,Bq,hW2,hW3,Zm,ZlU (by omega),Bq,Zm,ZlU hk,Bq,hW4,hx3,Bq,
  show x.snd.snd.fst=Gb x from rfl,hmx,Bq]
 simp only[Up,Int.toNat_zero,Nat.sub_zero,KF];rw[hset,Yg _ hf,Bq,Zm,hp,Bq,ZiP hp,Bq,Zg (by omega),Zg (by rw[hls];omega),Zfu _ (by omega),Bq,
  Zg (by omega),Zg (by rw[hls];omega),Zg (by omega),hdr,Zg (by rw[hl1,hl3];omega),Zg (by omega),Zg (by rw[hci];omega),Zg (by omega),Zg (by rw[hcn];omega),Zg (by omega),hD]
 refine Eq.trans (UM (λo=>Option.bind o _) hA) ?_;rfl
def Lens (b:Za) (e:Zj) (r:Za):Prop:=(places (KZ r)).length+(if K5 e=3 then 2 else 0)=(places (KZ b)).length+(if K5 e=2 then 2 else 0)
theorem ZzG (d:Zb) (x:Ze) (s:List UInt8):(places (addInst d x s)).length=(places d).length+(Gb x).length:=by
 rw[Zif,Ug,Ug,Vx];unfold places;rw[Ug];omega
theorem ZDS {b:Za} (h:YT b) {e:Zj} {k:Nat} {p:Pl} (hp:(places (KZ b))[k]?=some p):(places (Zvc b e p)).length=(places (KZ b)).length+2:=by
 rw[ZjR hp,QE (Zmc h hp),Uy,ZzG];rfl
theorem ZwY {b:Za} {e:Zj} {r:Za} (h2:K5 e≠2) (h3:K5 e≠3) (h:(places (KZ r)).length=(places (KZ b)).length):Lens b e r:=by
 unfold Lens;rw[Ud h2,Ud h3,h]
theorem Zrb {b:Za} {e:Zj} (h:Zii b e) (he:sm XO e):∃ r,JC e b=some r/\ZbK b e=some r/\YT r/\K4 r=K4 b/\Lens b e r:=by
 have hB:=h.blk;have hf:=hB.ok.1.few;have hwn:=hB.ok.2.1;obtain ⟨b1,b2,b3⟩:=JK hB.sm;unfold JC ZbK;rw[Zni _ hB.sm,Bq,Zxn _ hB.sm,Bq,Yg _ hf,Bq];by_cases k1:K5 e=1
 ·obtain ⟨p,x,c,c2,hp,h0,hd,hx,hc,hc2,ha⟩:=h.poss.1 k1
  obtain ⟨_,hcr⟩:=h.range.1 (.inl k1);have hx2:(K1 (KZ b))[p.1.toNat]?=some x:=by
   unfold atI at hx;rw[Uc h0] at hx;exact hx
  obtain ⟨⟨hxc,_⟩,_,_⟩:=hB.ok.1.2.2.1 x (Ue hx2);have hc3:(K8 (K4 b))[(Gx x).toNat]?=some c:=by
   unfold atI at hc;rw[Uc hxc] at hc;exact hc
  have hc4:(K8 (K4 b))[(Gv e).toNat]?=some c2:=by
   unfold atI at hc2;rw[Uc hcr.1] at hc2;exact hc2
  have hR:=Zzn hB h0 hx2 hc3 hc4 hcr (ZzN (Zas (Ztf b1) hc3) (Zas (Ztf b1) hc4) ha);rw[Uc k1,Uc k1,ZN _ hf,Bq,hp.at,Bq];have e1:Gq p=p.1:=rfl;have e2:GL p=p.1:=rfl;simp only[e1,e2,hx,Bq];refine ⟨swapped b p.1 (Gv e),?_,?_,hR,rfl,ZwY (by omega) (by omega) ?_⟩
  ·unfold swapped;rw[hx2]
  ·unfold swapped;rw[hx2]
  ·unfold swapped;rw[hx2];exact UM List.length (Zm5 hx2 _)
 rw[Ud k1,Ud k1];by_cases k2:K5 e=2
 ·obtain ⟨p,c,hp,hd,_⟩:=h.poss.2.1 k2
  have hs:=(ZtT he).1;rw[Uc k2,Uc k2,ZsR h k2 hs hp hd,Zth h k2 hs hp hd];exact ⟨_,rfl,rfl,Zm9 h k2 hs hp,rfl,by unfold Lens;rw[Ud (by omega),Uc k2];exact ZDS hB hp.2⟩
 rw[Ud k2,Ud k2];by_cases k3:K5 e=3
 ·have hL:=h.poss.2.2.1 k3
  obtain ⟨k,p,m,v,hs,hp,hpi,hm,hv,hun⟩:=Zqo hB hL;have hR:=ZoN hB hL hs hp hpi hm;rw[Uc k3,Uc k3,hun,ZqU hB hL hs hp hpi hm];obtain ⟨hn,x,hx,hl2⟩:=hL.two;have hn2:0<(K1 (conn (KZ b) p.1 p.2.1 m)).length:=by rw[XC];exact hn
  have hx4:(K1 (conn (KZ b) p.1 p.2.1 m))[(K1 (conn (KZ b) p.1 p.2.1 m)).length-1]?=some ((K1 (conn (KZ b) p.1 p.2.1 m))[(K1 (conn (KZ b) p.1 p.2.1 m)).length-1]'(by omega)):=Ua _;generalize (K1 (conn (KZ b) p.1 p.2.1 m))[(K1 (conn (KZ b) p.1 p.2.1 m)).length-1]'(by omega)=x' at hx4;obtain ⟨y,hy,_,_,hyl,_⟩:=Zim hx4;rw[XC,hx] at hy;injection hy with hy
  have h5:=ZlI hn2 hx4 (by rw[hyl,<-hy,hl2]);have h6:=Zo7 hp m;have hins:YQ (unD b p m)=YQ (KZ b)-2:=by unfold unD;omega
  refine ⟨ZpU b k p m,by rw[hins,hv];rfl,rfl,hR,rfl,?_⟩;have h7:=UM List.length (Zmk (s:=[]) hn2 hx4);rw[ZzG,hyl,<-hy,hl2,QE hp,Uy] at h7;unfold Lens;rw[Uc k3,Ud (by omega)];exact h7.symm
 rw[Ud k3,Ud k3];by_cases k4:K5 e=4
 ·obtain ⟨p,hp,hd,hne⟩:=h.poss.2.2.2.1 k4
  obtain ⟨_,hn,w,hw,hnode⟩:=h.range.2.1 k4;have hk:=(Ub.1 hp.2).1;have hR:=ZCL hB hp.2 hd hn (v:=GF e) (λw' hw'=>by rw[hw] at hw';injection hw' with hw';rw[<-hw'];exact hnode)
  rw[Uc k4,Uc k4,ZiF hB,Bq,ZN _ hf,Bq,hp.at,Bq,Zhb hB,Bq,YD hp.1 (ZlU hk),Bq,Bq,ZiP hp.2,Bq,
   show (Gq p,ZH.pin p,())=(p.1,p.2.1,()) from rfl,ZjE hp.2,Bq]
  refine ⟨moved b (Gc e).toNat p (Gs e) (GF e),?_,?_,hR,rfl,ZwY k2 k3 (by show (places (conn _ _ _ _)).length=_;rw[QE hp.2,Uy])⟩
  ·exact UM (λo=>Option.bind o λconnect0=>some connect0) (ZvE hB hp.2 hd hn (v:=GF e))
  ·exact UM (λo=>Option.bind o λl08Attach0=>some l08Attach0) (Zwb hB hp.2 (Gs e) (GF e))
 ·have k5:K5 e=5:=by have:=h.blank;unfold Blank at this;omega
  have hn:=h.range.2.2 k5;obtain ⟨w,hw1,hw2,_⟩:=ZnJ hB hn;have hsw:=(ZtT he).2;have hR:=ZBF hB hn (h.poss.2.2.2.2 k5) hsw;rw[Ud k4,Ud k4,Uc k5,Uc k5,Zi5 _ hsw,Bq,Zl8 _ hsw,Bq,hw2,Bq];exact ⟨ZDH b (Gs e) (GB e),rfl,rfl,hR,rfl,ZwY k2 k3 rfl⟩
theorem ZBW {b:Za} {e:Zj} (h:Zii b e) (he:sm XO e):∃ r,JC e b=some r/\ZbK b e=some r/\YT r/\K4 r=K4 b:=by
 obtain ⟨r,h1,h2,h3,h4,_⟩:=Zrb h he;exact ⟨r,h1,h2,h3,h4⟩
theorem ZzW {b:Za} (h:YT b) (hL:ZmE b):ZeZ b=some true:=by
 obtain ⟨x,c,w,m,hn,hx,hc,hk1,hk2,hl2,hm,hl,hne,hnm,hw,hs1,hs2,hp1,hc0⟩:=hL;have hD:=h.ok.1;have hf:=hD.few;have h14:=hf.insts;have h30:=hD.2.1.2.1;have hwn:=h.ok.2.1;obtain ⟨⟨c0,c1⟩,_,hnet⟩:=hD.2.2.1 x (Ue hx);have hx2:atI (K1 (KZ b)) (((K1 (KZ b)).length:Int)-1)=some x:=YD (by omega) (by rw[<-hx];congr 1;omega);have hc2:atI (K8 (K4 b)) (Gx x)=some c:=YD c0 hc;have eW:Wq (((K2 b).length:Int)-1)=((K6 (KZ b)).length:Int)-1:=by rw[YZ (by omega) (by omega)];omega
 have hbuf:VB c=some true:=by
  unfold VB;rw[Uc hk1,hk2];rfl
 have hs2':((sinks (KZ b) (((K6 (KZ b)).length:Int)-1)).length:Int)=1:=by omega
 have hp1':((K3 w).length:Int)=1:=by omega
 unfold ZeZ;rw[YZ (n:=((K1 (KZ b)).length:Int)-1) (by omega) (by omega),Ud (by omega),hx2];simp only[Bq,hc2,hbuf,Uj,eW,hl,hnm,hm,hw,Ud hne,XZ _ _ hf,hs2',Zjx,hp1',hc0,decide_true]
theorem ZCZ {b:Za} {e:Zj} (h:Zii b e) (he:sm XO e):Zdp b e=some true:=by
 have hB:=h.blk;have hD:=hB.ok.1;have hf:=hD.few;have hsd:=(JK hB.sm).2.1;obtain ⟨he1,he2⟩:=ZtT he;unfold Zdp;rw[Yg _ hf,Bq];by_cases k1:K5 e=1
 ·obtain ⟨p,x,c,c2,hp,h0,hd,hx,hc,hc2,ha⟩:=h.poss.1 k1
  rw[Uc k1,hp.at];simp only[Bq,show GL p=p.1 from rfl,show GU p=p.2.2.2.1 from rfl,Uc h0,Uc hd,hx,hc,hc2,ha]
 rw[Ud k1];by_cases k2:K5 e=2
 ·obtain ⟨p,c,hp,hd,hc,hk,hpins,hname,hni,hnn⟩:=h.poss.2.1 k2
  have hlN:(Gh e).length<=4611686018427387904:=by have:((Gh e).length:Int)<=1048576:=he1;omega
  have hbuf:VB c=some true:=by
   unfold VB;rw[Uc hk,hpins];rfl
  rw[Uc k2,hp.at];simp only[Bq,show GU p=p.2.2.2.1 from rfl,hd,hc,hbuf,Zbf _ hlN,hname,(ZlJ _ (Gh e) hsd).2,(Zny _ (Gh e) hsd).2,Uj,Uc hni,UX hnn,Kf,Uh]
 rw[Ud k2];by_cases k3:K5 e=3
 ·rw[Uc k3,ZzW hB (h.poss.2.2.1 k3)]
  rfl
 rw[Ud k3];by_cases k4:K5 e=4
 ·obtain ⟨p,hp,hd,hne⟩:=h.poss.2.2.2.1 k4
  rw[Uc k4,hp.at];simp only[Bq,show GU p=p.2.2.2.1 from rfl,show ZE.net p=p.2.2.1 from rfl,hd,Kf,Uh,decide_eq_false hne,Bool.not_false]
 rw[Ud k4];have k5:K5 e=5:=by have:=h.blank;unfold Blank at this;omega
 obtain ⟨w,hw1,hw2,hw3⟩:=ZnJ hB (h.range.2.2 k5);rw[XZ _ _ hf];simp only[Bq,ZjL _ _ he2];rw[ZU (h.poss.2.2.2.2 k5)]
theorem ZB9 {b:Za} {e:Zj} (h:Zii b e) (he:sm XO e):ZdO e b=some 0/\Vz b e=some 0:=by
 have hB:=h.blk;have hwn:=hB.ok.2.1;have h2:Vz b e=some 0:=by
  unfold Vz;rw[JL b hB.sm,Bq,Uc (ZU hB.ok),Zll e he,Bq,Uc (ZU h.blank),Zlm hB e he,Bq,Uc (ZU h.range),ZCZ h he,Bq,Uc rfl];by_cases k2:K5 e=2
  ·have:=h.lim k2
   rw[Uc k2,Ud (by omega),Ud (by omega)]
  ·rw[Ud k2]
 obtain ⟨c,h3,h4,_⟩:=Zp6 hB e he;rw[h4] at h2;injection h2 with h2
 subst h2;exact ⟨h3,h4⟩
theorem Zq5:∀ (l:List ZL) (m:Nat),(cat Zba m l).length=l.length
 | [],_=>rfl
 | x::r,m=>by simp only[cat,Ug,Zba,Ux,Zq5 r,Uz];omega
theorem Zun {i:Nat} {x:Ze} {p:Pl} (hp:p∈YH i x):p.1=(i:Int):=by
 unfold YH at hp;obtain ⟨j,n,hj,hn⟩:=X8.1 hp;simp only[Uu] at hn;subst hn;rfl
theorem ZCv (i:Nat) (x:Ze):(YH i x).length=(Gb x).length:=by
 have:∀ (l:List Int) (m:Nat) (c:Int),(cat (λj n=>[((i:Int),(j:Int),n,decide ((j:Int)=c),())]) m l).length=l.length:=by
  intro l;induction l with
  | nil=>intro m c;rfl
  | cons y r ih=>intro m c;simp only[cat,Ug,Ux,ih,Uz];omega
 unfold YH;exact this _ _ _
theorem Zj7 {d:Zb} {k:Nat} {p:Pl} (hp:(places d)[k]?=some p):(p.1<0<->(places d).length<=k+(Ga d).length)/\-1<=p.1:=by
 have hl:(places d).length=(cat YH 0 (K1 d)).length+(Ga d).length:=by unfold places;rw[Ug,Zq5]
 by_cases hk:k<(cat YH 0 (K1 d)).length
 ·have h1:p∈cat YH 0 (K1 d):=by
   unfold places at hp;rw[Uq hk] at hp;exact Ue hp
  obtain ⟨i,z,hi,hz⟩:=X8.1 h1;have:=Zun hz;omega
 ·have h1:p∈cat Zba 0 (Ga d):=by
   unfold places at hp;rw[Uv (by omega)] at hp;exact Ue hp
  obtain ⟨j,q,hj,hq⟩:=X8.1 h1;simp only[Zba,Uu] at hq;subst hq;simp only;omega
theorem ZtP {d:Zb} {x:Ze} (hn:0<(K1 d).length) (hx:(K1 d)[(K1 d).length-1]?=some x) {k:Nat} {p:Pl} (hp:(places d)[k]?=some p) (h0:0<=p.1) :
  p.1=((K1 d).length:Int)-1<->(places d).length<=k+(Ga d).length+(Gb x).length:=by
 have hl:(places d).length=(cat YH 0 (K1 d)).length+(Ga d).length:=by unfold places;rw[Ug,Zq5]
 have hs:cat YH 0 (K1 d)=cat YH 0 ((K1 d).take ((K1 d).length-1))++YH ((K1 d).length-1) x:=by
  rw[<-Zcg hx,show (K1 d).length-1+1=(K1 d).length by omega,Um]
 have hsl:=UM List.length hs;rw[Ug,ZCv] at hsl;have hk:k<(cat YH 0 (K1 d)).length:=by
  have:=(Zj7 hp).1;omega
 have h1:(cat YH 0 (K1 d))[k]?=some p:=by
  unfold places at hp
  rwa [Uq hk] at hp
 rw[hs] at h1;by_cases hk2:k<(cat YH 0 ((K1 d).take ((K1 d).length-1))).length
 ·rw[Uq hk2] at h1
  obtain ⟨i,z,hi,hz⟩:=X8.1 (Ue h1);have e:=Zun hz;have hil:=(Ub.1 hi).1;rw[Ui] at hil;omega
 ·rw[Uv (by omega)] at h1
  have e:=Zun (Ue h1);omega
noncomputable def ZsL (b:Za) (e:Zj) (k:Nat) (p:Pl):Int :=
 if K5 e=2/\p.1<0 then (k:Int)+2
 else if K5 e=3/\p.1<0 then (k:Int)-2
 else if K5 e=3/\p.1=((K1 (KZ b)).length:Int)-1 then -1
 else (k:Int)
theorem ZzH {b:Za} {e:Zj} {k:Nat} {p:Pl} (k2:K5 e=2) (q1:p.1<0):ZsL b e k p=(k:Int)+2:=by unfold ZsL;rw[Uc ⟨k2,q1⟩]
theorem ZzI {b:Za} {e:Zj} {k:Nat} {p:Pl} (k3:K5 e=3) (q1:p.1<0):ZsL b e k p=(k:Int)-2:=by unfold ZsL;rw[Ud (λq=>by have:=q.1;omega),Uc ⟨k3,q1⟩]
theorem ZzJ {b:Za} {e:Zj} {k:Nat} {p:Pl} (k3:K5 e=3) (q1:¬p.1<0) (q2:p.1=((K1 (KZ b)).length:Int)-1):ZsL b e k p=-1:=by unfold ZsL;rw[Ud (λq=>q1 q.2),Ud (λq=>q1 q.2),Uc ⟨k3,q2⟩]
theorem ZzK {b:Za} {e:Zj} {k:Nat} {p:Pl} (k3:K5 e=3) (q1:¬p.1<0) (q2:¬p.1=((K1 (KZ b)).length:Int)-1):ZsL b e k p=(k:Int):=by unfold ZsL;rw[Ud (λq=>q1 q.2),Ud (λq=>q1 q.2),Ud (λq=>q2 q.2)]
theorem Zts {b:Za} {e:Zj} {k:Nat} {p:Pl} (k3:¬K5 e=3) (q1:¬(K5 e=2/\p.1<0)):ZsL b e k p=(k:Int):=by unfold ZsL;rw[Ud q1,Ud (λq=>k3 q.1),Ud (λq=>k3 q.1)]
noncomputable def after (b:Za) (e:Zj):List Int:=cat (λk p=>[ZsL b e k p]) 0 (places (KZ b))
theorem ZqY {α β:Type} {g:Nat->α->β}:∀ (l:List α) (m:Nat),(cat (λj n=>[g j n]) m l).length=l.length
 | [],_=>rfl
 | x::r,m=>by simp only[cat,Ug,Ux,ZqY r,Uz];omega
theorem ZiG {b:Za} {e:Zj} (h:Zii b e):VH e b=some (after b e):=by
 have hD:=h.blk.ok.1;have hf:=hD.few;have hpl:=Z0 hf;have h14:=hf.insts;unfold VH;rw[show Qv (K1 (KZ b))=some ((K1 (KZ b)).length:Int) from rfl,ZN _ hf,Bq,Bq];have:=Xr (l:=places (KZ b)) (ρ:=List Int) (λk p=>[ZsL b e k p]) [] (step:=λv=>QV e ((K1 (KZ b)).length:Int) (places (KZ b)) v.1 v.2.1) (good:=after b e)
  (λk p hp hk=>by
   have hl:=ZqY (g:=ZsL b e) ((places (KZ b)).take k) 0;rw[Ui] at hl;have hpp:=Zj7 hp;have hg:∀ n:Int,(([]++cat (λk p=>[ZsL b e k p]) 0 ((places (KZ b)).take k)).length+[n].length)*8<=140737488355328:=λn=>by
    rw[Us,Un,hl];omega
   simp only[QV,show (k:Int)<((places (KZ b)).length:Int) from by omega,Uj,Zm,hp,Bq,Zg (hg _),Y4 (show k<=1048576 by omega),YZ (show (-9223372036854775808:Int)<=(k:Int)+2 by omega) (by omega),YZ (show (-9223372036854775808:Int)<=(k:Int)-2 by omega) (by omega),YZ (show (-9223372036854775808:Int)<=((K1 (KZ b)).length:Int)-1 by omega) (by omega),Gq];by_cases k2:K5 e=2
   ·have k3:¬K5 e=3:=by omega
    by_cases q1:p.1<0
    ·rw[ZzH k2 q1,Uc k2,Uc q1]
    ·rw[Zts k3 (λq=>q1 q.2),Uc k2,Ud q1,Ud k3,Ud k3]
   ·rw[Ud k2]
    by_cases k3:K5 e=3
    ·by_cases q1:p.1<0
     ·rw[ZzI k3 q1,Uc k3,Uc q1]
     ·by_cases q2:p.1=((K1 (KZ b)).length:Int)-1
      ·rw[ZzJ k3 q1 q2,Uc k3,Ud q1,Uc k3,Uc q2]
      ·rw[ZzK k3 q1 q2,Uc k3,Ud q1,Uc k3,Ud q2]
    ·rw[Zts k3 (λq=>k2 q.1),Ud k3,Ud k3])
  (by simp only[QV,Uf,Uh];rfl)
 exact this
theorem Zkc {b:Za} {e:Zj} (h:Zii b e):ZdY b e=some (after b e):=by
 have hD:=h.blk.ok.1;have hf:=hD.few;have hpl:=Z0 hf;have h14:=hf.insts;have h8:=hf.ports;have hle:(Ga (KZ b)).length<=(places (KZ b)).length:=by unfold places;rw[Ug,Zq5];omega
 unfold ZdY;rw[Yg _ hf,Bq];have:=Xr (l:=places (KZ b)) (ρ:=List Int) (λk p=>[ZsL b e k p]) [] (step:=λv=>ZaR b e (places (KZ b)) v.1 v.2.1) (good:=after b e)
  (λk p hp hk=>by
   have hl:=ZqY (g:=ZsL b e) ((places (KZ b)).take k) 0;rw[Ui] at hl;obtain ⟨hpp,hm1⟩:=Zj7 hp;have hg:∀ n:Int,(([]++cat (λk p=>[ZsL b e k p]) 0 ((places (KZ b)).take k)).length+[n].length)*8<=140737488355328:=λn=>by
    rw[Us,Un,hl];omega
   have e1:Wq (((places (KZ b)).length:Int)-((Ga (KZ b)).length:Int))=((places (KZ b)).length:Int)-((Ga (KZ b)).length:Int):=YZ (by omega) (by omega);have e2:Wq (((places (KZ b)).length:Int)-((Ga (KZ b)).length:Int)-2)=((places (KZ b)).length:Int)-((Ga (KZ b)).length:Int)-2:=YZ (by omega) (by omega);have c1:(((places (KZ b)).length:Int)-((Ga (KZ b)).length:Int)<=(k:Int))=(p.1<0):=propext ⟨λq=>hpp.2 (by omega),λq=>by have:=hpp.1 q;omega⟩;simp only[ZaR,show (k:Int)<((places (KZ b)).length:Int) from by omega,Uj,Zg (hg _),Y4 (show k<=1048576 by omega),YZ (show (-9223372036854775808:Int)<=(k:Int)+2 by omega) (by omega),YZ (show (-9223372036854775808:Int)<=(k:Int)-2 by omega) (by omega),e1,e2,c1];by_cases k2:K5 e=2
   ·have k3:¬K5 e=3:=by omega
    by_cases q1:p.1<0
    ·rw[ZzH k2 q1,Uc k2,Uc q1]
    ·rw[Zts k3 (λq=>q1 q.2),Uc k2,Ud q1,Ud k3,Ud k3]
   ·rw[Ud k2]
    by_cases k3:K5 e=3
    ·obtain ⟨hn,x,hx,hx2⟩:=h.last k3
     by_cases q1:p.1<0
     ·rw[ZzI k3 q1,Uc k3,Uc q1]
     ·have hL:=ZtP hn hx hp (by omega)
      rw[hx2] at hL;have c2:(((places (KZ b)).length:Int)-((Ga (KZ b)).length:Int)-2<=(k:Int))=(p.1=((K1 (KZ b)).length:Int)-1):=propext ⟨λq=>hL.2 (by omega),λq=>by have:=hL.1 q;omega⟩;simp only[c2];by_cases q2:p.1=((K1 (KZ b)).length:Int)-1
      ·rw[ZzJ k3 q1 q2,Uc k3,Ud q1,Uc k3,Uc q2]
      ·rw[ZzK k3 q1 q2,Uc k3,Ud q1,Uc k3,Ud q2]
    ·rw[Zts k3 (λq=>k2 q.1),Ud k3,Ud k3])
  (by simp only[ZaR,Uf,Uh];rfl)
 exact this
theorem ZzM (b:Za) (e:Zj):(after b e).length=(places (KZ b)).length:=ZqY _ _
def goes (af:List Int) (n:Int):Int:=(af[(n / 2).toNat]?).getD 0
def carry (af:List Int) (x:Zk):Zk:=(Wq (Wq (2*goes af (Gl x))+Int.tmod (Gl x) 2),x.2)
theorem ZEd {af:List Int} {n:Int} (h0:0<=n) (h1:n<=2*(af.length:Int)-1) (h2:af.length<=1048576):atI af (Wq (Int.tdiv n 2))=some (goes af n):=by
 rw[Kk h0,YZ (by omega) (by omega)];have hlt:(n / 2).toNat<af.length:=by omega
 have hg:=Ua hlt;rw[YD (by omega) hg];unfold goes;rw[hg];rfl
theorem ZBf {l:List Zk} {f:Zk->Zk} {k:Nat} {x:Zk} (hx:l[k]?=some x):List.set ((l.take k).map f++l.drop k) k (f x)=(l.take (k+1)).map f++l.drop (k+1):=by
 have hk:=(Ub.1 hx).1;have hlen:((l.take k).map f).length=k:=by rw[UL,Ui];omega
 have hd:l.drop k=x::l.drop (k+1):=by
  rw[Ka hk];congr 1;exact (Ub.1 hx).2
 rw[hd,Yu hx,UV,KT];rw[Ud (by omega),hlen,KD];simp
theorem ZB2 {l:List Zk} {f:Zk->Zk} {k:Nat} {x:Zk} (hx:l[k]?=some x):((l.take k).map f++l.drop k)[k]?=some x:=by
 have hk:=(Ub.1 hx).1;have hlen:((l.take k).map f).length=k:=by rw[UL,Ui];omega
 rw[Uv (by omega),hlen,KD,Kb];exact hx
theorem ZpM (b:Za) (e:Zj) (l:List Zk) (hb:sm ZT b) (he:sm XO e) (hl:l.length<=1048576):∃ r,Za3 b e l=some r/\Zbd b e l=some r/\r.1.length<=1048576/\
  ((r.2=0/\Zii b e/\ZfL l (Zcf (2*((places (KZ b)).length:Int)) l)/\ZfL l (λ_ x=>0<=goes (after b e) (Gl x))/\r.1=l.map (carry (after b e)))\/(r.2≠0/\r.1=[]/\¬(Zii b e/\ZfL l (Zcf (2*((places (KZ b)).length:Int)) l)/\ZfL l (λ_ x=>0<=goes (after b e) (Gl x))))):=by
 obtain ⟨c,h1,h2,h3⟩:=Zng b e hb he;unfold Za3 Zbd;rw[h1,h2,Bq,Bq];by_cases hc:c=0
 ·have h:=h3 hc
  have hpl:=Z0 h.blk.ok.1.few;obtain ⟨v,hv1,hv2,_⟩:=ZnA h.blk;rw[Uc hc,Uc hc,hv1,Bq,Zi7 h.blk v hv2 l hl,Zjy h.blk l hl,Bq,Bq];by_cases hS:ZfL l (Zcf (2*((places (KZ b)).length:Int)) l)
  ·have hal:=ZzM b e
   rw[Uc (ZU hS),Uc (ZU hS),ZiG h,Bq];unfold ZiT Qk;rw[Zkc h,Bq,Zg (by rw[Ux];omega),Bq,Us];have hat:∀ (k:Nat) (x:Zk),l[k]?=some x->atI (after b e) (Wq (Int.tdiv (Gl x) 2))=some (goes (after b e) (Gl x)):=λk x hx=>by
    have:=(hS k x hx).1;exact ZEd this.1 (by rw[hal];omega) (by rw[hal];omega)
   have i1:=Zjo (l:=l) (ρ:=List Zk×Int) (λk=>((k:Int),(l.take k).map (carry (after b e))++l.drop k,())) (λ_ x=>0<=goes (after b e) (Gl x)) (step:=λv=>Jf l (after b e) v.1 v.2.1) (bad:=([],5)) (good:=(l.map (carry (after b e)),0))
    (λk x hx hk _=>by
     simp only[Jf,show (k:Int)<(l.length:Int) from by omega,Uj,Zm,hx,Bq,ZgM,hat k x hx,Uk,ZB2 hx,Up,Y4 (show k<=1048576 by omega)];constructor
     ·intro q
      rw[Uc q,show ((Wq (Wq (2*goes (after b e) (Gl x))+Int.tmod (Gl x) 2),x.2):Zk)=carry (after b e) x from rfl,ZBf hx]
     ·intro q;rw[Ud q])
    (λ_=>by simp only[Jf,Uf,Uh,Um,List.drop_length,Uo])
   have i2:=Zjo (l:=l) (ρ:=List Zk×Bool) (λk=>((l.take k).map (carry (after b e)),(k:Int),())) (λ_ x=>0<=goes (after b e) (Gl x)) (step:=λv=>ZaA l (after b e) v.1 v.2.1) (bad:=([],false)) (good:=(l.map (carry (after b e)),true))
    (λk x hx hk _=>by
     simp only[ZaA,show (k:Int)<(l.length:Int) from by omega,Uj,Zm,hx,Bq,hat k x hx,Y4 (show k<=1048576 by omega)];rw[Zg (by rw[UL,Ui,Un];omega)];constructor
     ·intro q
      rw[Ud (by omega),Yu hx,UV];rfl
     ·intro q;rw[Uc (by omega)])
    (λ_=>by simp only[ZaA,Uf,Uh,Um])
   simp only[Ku,Kw,Us,KF] at i1 i2;rw[show ((0:Nat):Int)=0 from rfl] at i1 i2;rw[i1,i2,Bq];by_cases hA:ZfL l (λ_ x=>0<=goes (after b e) (Gl x))
   ·rw[QF hA,QF hA]
    exact ⟨_,rfl,rfl,by simp only[UL];exact hl,.inl ⟨rfl,h,hS,hA,rfl⟩⟩
   ·rw[Qc hA,Qc hA]
    exact ⟨_,rfl,rfl,by simp,.inr ⟨by show ¬(5:Int)=0;omega,rfl,λz=>hA z.2.2⟩⟩
  ·rw[Ud (λq=>hS ((YS _).1 q)),Ud (λq=>hS ((YS _).1 q))]
   exact ⟨_,rfl,rfl,by simp,.inr ⟨by show ¬(2:Int)=0;omega,rfl,λz=>hS z.2.1⟩⟩
 ·rw[Ud hc,Ud hc]
  exact ⟨_,rfl,rfl,by simp,.inr ⟨hc,rfl,λz=>by
   have:=(ZB9 z.1 he).2;rw[h2] at this;injection this with this
   exact hc this⟩⟩
theorem Zso (b:Za) (e:Zj) (l:List Zk) (hb:sm ZT b) (he:sm XO e) (hl:l.length<=1048576):∃ r,Za3 b e l=some r/\Zbd b e l=some r/\r.1.length<=1048576:=by
 obtain ⟨r,h1,h2,h3,_⟩:=ZpM b e l hb he hl;exact ⟨r,h1,h2,h3⟩
theorem ZzL {b:Za} {e:Zj} {k:Nat} {p:Pl} (hp:(places (KZ b))[k]?=some p):(after b e)[k]?=some (ZsL b e k p):=by
 unfold after;rw[Zbs,hp];simp
theorem ZBU {b:Za} {e:Zj} {r:Za} (h:Zii b e) (hL:Lens b e r) {k:Nat} {p:Pl} (hp:(places (KZ b))[k]?=some p):-1<=ZsL b e k p/\ZsL b e k p<((places (KZ r)).length:Int):=by
 have hk:=(Ub.1 hp).1;obtain ⟨hpp,hm1⟩:=Zj7 hp;unfold Lens at hL;have hports:(Ga (KZ b)).length<=(places (KZ b)).length:=by rw[ZeU];omega
 by_cases k2:K5 e=2
 ·rw[Ud (by omega),Uc k2] at hL
  by_cases q1:p.1<0
  ·rw[ZzH k2 q1];omega
  ·rw[Zts (by omega) (λq=>q1 q.2)];omega
 ·by_cases k3:K5 e=3
  ·rw[Uc k3,Ud k2] at hL
   obtain ⟨hn,x,hx,hx2⟩:=h.last k3;by_cases q1:p.1<0
   ·rw[ZzI k3 q1]
    have:=hpp.1 q1;obtain ⟨y,hy⟩:∃ y,(Gb x)[1]?=some y:=⟨_,Ua (by omega)⟩;have hp2:=ZgT hx hy;obtain ⟨hq,_⟩:=Zj7 hp2;have:¬(Zfw ((K1 (KZ b)).length-1) x 1 y).1<0:=by
     show ¬(((K1 (KZ b)).length-1:Nat):Int)<0;omega
    have h3:¬(places (KZ b)).length<=Zg5 (KZ b) ((K1 (KZ b)).length-1)+1+(Ga (KZ b)).length:=λq=>this (hq.2 q);omega
   ·have hq:=ZtP hn hx hp (by omega)
    rw[hx2] at hq;by_cases q2:p.1=((K1 (KZ b)).length:Int)-1
    ·rw[ZzJ k3 q1 q2];omega
    ·rw[ZzK k3 q1 q2]
     have:¬(places (KZ b)).length<=k+(Ga (KZ b)).length+2:=λq=>q2 (hq.2 q);omega
  ·rw[Ud k3,Ud k2] at hL
   rw[Zts k3 (λq=>k2 q.1)];omega
def Zzc (n:Nat):Zh:=(List.replicate n false,List.replicate n (0,0,()),List.replicate n (0,0,()),())
theorem Zo5 {b:Za} (h:Few (KZ b)) (v:ZO) (hv:ZO.places v=places (KZ b)):ZbC v=some (Zzc (2*(places (KZ b)).length)):=by
 have hpl:=Z0 h;unfold ZbC Y6;rw[show Xm (ZO.places v)=some ((ZO.places v).length:Int) from rfl,Bq,Bq,hv,YZ (n:=2*((places (KZ b)).length:Int)) (by omega) (by omega)];rw[Zg (by omega),Zg (by omega),Zg (by omega),Zg (by omega),Zg (by omega)];rw[show (2*((places (KZ b)).length:Int)).toNat=2*(places (KZ b)).length by omega];rfl
theorem ZqS {n:Nat} (h:n<=1048576):Zh8 ((n:Nat):Int)=some (Zzc n):=by
 unfold Zh8;rw[Zg (by omega),Zg (by omega),Zg (by omega),Zg (by omega),Zg (by omega)];rfl
def Zsy (af:List Int) (t:Zh) (k:Nat) (r:Bool) (o:Zh):Zh :=
 if (af[k / 2]?).getD 0<0 then o else
  (List.set (K9 o) (2*(af[k / 2]?).getD 0+((k % 2:Nat):Int)).toNat r,List.set (Gp o) (2*(af[k / 2]?).getD 0+((k % 2:Nat):Int)).toNat (((Gp t)[k]?).getD (0,0,())),
   List.set (Gm o) (2*(af[k / 2]?).getD 0+((k % 2:Nat):Int)).toNat (((Gm t)[k]?).getD (0,0,())),())
def Zu4 (af:List Int) (t:Zh) (n:Nat):Zh:=foldI (Zsy af t) 0 (K9 t) (Zzc n)
def ZsK (n:Nat) (o:Zh):Prop:=(K9 o).length=n/\(Gp o).length=n/\(Gm o).length=n
theorem ZpT {af:List Int} {t:Zh} {k n:Nat} {r:Bool} {o:Zh} (h:ZsK n o):ZsK n (Zsy af t k r o):=by
 unfold Zsy;split
 ·exact h
 ·obtain ⟨h1,h2,h3⟩:=h
  refine ⟨?_,?_,?_⟩
  ·show (List.set (K9 o) _ _).length=n;rw[Uy];exact h1
  ·show (List.set (Gp o) _ _).length=n;rw[Uy];exact h2
  ·show (List.set (Gm o) _ _).length=n;rw[Uy];exact h3
theorem ZuC (n:Nat):ZsK n (Zzc n):=⟨UW,UW,UW⟩
theorem Zvu {α σ:Type} {f:Nat->α->σ->σ} (I:σ->Prop) (hf:∀ k x s,I s->I (f k x s)):∀ (l:List α) (m:Nat) (s:σ),I s->I (foldI f m l s)
 | [],_,_,h=>h
 | x::r,m,s,h=>Zvu I hf r (m+1) (f m x s) (hf m x s h)
theorem Zxr (af:List Int) (t:Zh) (n:Nat):ZsK n (Zu4 af t n):=Zvu (ZsK n) (λk x s h=>ZpT h) _ _ _ (ZuC n)
theorem ZFw {k:Nat} (h:k<=1048576):Wq (Int.tdiv (k:Int) 2)=((k / 2:Nat):Int):=by
 rw[Kk (by omega),YZ (by omega) (by omega)];omega
theorem ZFx (k:Nat):Int.tmod (k:Int) 2=((k % 2:Nat):Int):=by
 rw[Int.tmod_eq_emod_of_nonneg (by omega)];omega
theorem ZDF {b:Za} {e:Zj} {r:Za} (h:Zii b e) (hL:Lens b e r) {k:Nat} (hk:k<2*(places (KZ b)).length) :
  ∃ q,atI (after b e) (Wq (Int.tdiv (k:Int) 2))=some q/\((after b e)[k / 2]?).getD 0=q/\-1<=q/\q<((places (KZ r)).length:Int):=by
 have hpl:=Z0 h.blk.ok.1.few;have hp:(places (KZ b))[k / 2]?=some ((places (KZ b))[k / 2]'(by omega)):=Ua _;generalize (places (KZ b))[k / 2]'(by omega)=p at hp;have hg:=ZzL (e:=e) hp;obtain ⟨h1,h2⟩:=ZBU h hL hp;exact ⟨ZsL b e (k / 2) p,by rw[ZFw (by omega),Zm,hg],by rw[hg];rfl,h1,h2⟩
theorem ZBw {n k:Nat} {q:Int} (h0:0<=q) (h1:2*q+2<=(n:Int)) (hn:n<=1048576):Wq (Wq (2*q)+Int.tmod (k:Int) 2)=2*q+((k % 2:Nat):Int)/\(2*q+((k % 2:Nat):Int)).toNat<n:=by
 rw[ZFx,YZ (n:=2*q) (by omega) (by omega),YZ (by omega) (by omega)];exact ⟨rfl,by omega⟩
theorem ZpR {α:Type} {l:List α} {n:Nat} (hl:l.length=n) {i:Int} (h0:0<=i) (h1:i.toNat<n):∃ x,atI l i=some x :=
 ⟨l[i.toNat]'(by omega),YD h0 (Ua _)⟩
theorem Zu3 {b:Za} {e:Zj} {r:Za} (h:Zii b e) (hr:YT r) (hL:Lens b e r) {t:Zh} (ht:Zlw (2*((places (KZ b)).length:Int)) t) :
  Zq (λv=>XR t (after b e) ((K9 t).length:Int) v.1 v.2.1 v.2.2.1 v.2.2.2.1) ((0:Int),K9 (Zzc (2*(places (KZ r)).length)),Gp (Zzc (2*(places (KZ r)).length)),Gm (Zzc (2*(places (KZ r)).length)),())=some (Zu4 (after b e) t (2*(places (KZ r)).length)):=by
 have hpb:=Z0 h.blk.ok.1.few;have hpr:=Z0 hr.ok.1.few;obtain ⟨t1,t2,t3,t4⟩:=ht;have hl:Len (K9 t):=by unfold Len;omega
 generalize hn:2*(places (KZ r)).length=n;refine ZeM (l:=K9 t) hl (λ(s:Zh) (i:Int)=>(i,K9 s,Gp s,Gm s,())) (f:=Zsy (after b e) t) (λ_ s=>ZsK n s) (ZuC n) ?_ ?_
 ·intro k x s hx hI _
  have hk:=(Ub.1 hx).1;obtain ⟨q,q1,q2,q3,q4⟩:=ZDF h hL (k:=k) (by omega);have ha:(Gp t)[k]?=some ((Gp t)[k]'(by omega)):=Ua _;have hs:(Gm t)[k]?=some ((Gm t)[k]'(by omega)):=Ua _;generalize (Gp t)[k]'(by omega)=a at ha;generalize (Gm t)[k]'(by omega)=w at hs;refine ⟨?_,ZpT hI⟩;simp only[XR,ZgM,show (k:Int)<((K9 t).length:Int) from by omega,Uj,q1,Bq,Zm,hx,ha,hs,Uk];unfold Zsy;rw[q2,ha,hs];by_cases c:q<0
  ·rw[Ud (by omega),Uc c]
  ·obtain ⟨w1,w2⟩:=ZBw (n:=n) (k:=k) (q:=q) (by omega) (by omega) (by omega)
   rw[Uc (by omega),Ud c,w1];obtain ⟨x1,y1⟩:=ZpR hI.1 (by omega) w2;obtain ⟨x2,y2⟩:=ZpR hI.2.1 (by omega) w2;obtain ⟨x3,y3⟩:=ZpR hI.2.2 (by omega) w2;rw[y1,Bq,y2,Bq,y3,Bq];rfl
 ·intro s hI hs
  simp only[XR,Uf,Uh];rw[hs];rfl
theorem ZqP {b:Za} (h:YT b) (t:Zh):Zh1 b t=some (tr (Zlw (2*((places (KZ b)).length:Int)) t)):=by
 have hpl:=Z0 h.ok.1.few;unfold Zh1;rw[JL b h.sm,Bq,Uc (ZU h.ok),Zhc h.ok.1.few,Bq,Zkb (by omega) (by omega)];rfl
theorem Zwj {b:Za} {e:Zj} {r:Za} (h:Zii b e) (hr:YT r) (hL:Lens b e r) {t:Zh} (ht:Zlw (2*((places (KZ b)).length:Int)) t) :
  Zq (λv=>XR t (after b e) ((K9 t).length:Int) v.1 v.2.1 v.2.2.1 v.2.2.2.1) ((0:Int),K9 (Zzc (2*(places (KZ r)).length)),Gp (Zzc (2*(places (KZ r)).length)),Gm (Zzc (2*(places (KZ r)).length)),())=some (Zu4 (after b e) t (2*(places (KZ r)).length))/\
  Zq (λv=>ZaS t (after b e) v.1 v.2.1 v.2.2.1 v.2.2.2.1) ((0:Int),K9 (Zzc (2*(places (KZ r)).length)),Gp (Zzc (2*(places (KZ r)).length)),Gm (Zzc (2*(places (KZ r)).length)),())=some (Zu4 (after b e) t (2*(places (KZ r)).length)):=by
 have hpb:=Z0 h.blk.ok.1.few;have hpr:=Z0 hr.ok.1.few;obtain ⟨t1,t2,t3,t4⟩:=ht;have hl:Len (K9 t):=by unfold Len;omega
 generalize hn:2*(places (KZ r)).length=n;refine ⟨hn▸Zu3 h hr hL ⟨t1,t2,t3,t4⟩,?_⟩
 ·refine ZeM (l:=K9 t) hl (λ(s:Zh) (i:Int)=>(i,K9 s,Gp s,Gm s,())) (f:=Zsy (after b e) t) (λ_ s=>ZsK n s) (ZuC n) ?_ ?_
  ·intro k x s hx hI _
   have hk:=(Ub.1 hx).1;obtain ⟨q,q1,q2,q3,q4⟩:=ZDF h hL (k:=k) (by omega);have ha:(Gp t)[k]?=some ((Gp t)[k]'(by omega)):=Ua _;have hs:(Gm t)[k]?=some ((Gm t)[k]'(by omega)):=Ua _;generalize (Gp t)[k]'(by omega)=a at ha;generalize (Gm t)[k]'(by omega)=w at hs;refine ⟨?_,ZpT hI⟩;simp only[ZaS,show (k:Int)<((K9 t).length:Int) from by omega,Uj,q1,Bq,Zm,hx,ha,hs];unfold Zsy;rw[q2,ha,hs];by_cases c:q<0
   ·rw[Uc c,Uc c]
   ·obtain ⟨w1,w2⟩:=ZBw (n:=n) (k:=k) (q:=q) (by omega) (by omega) (by omega)
    rw[Ud c,Ud c,w1];obtain ⟨x1,y1⟩:=ZpR hI.1 (by omega) w2;obtain ⟨x2,y2⟩:=ZpR hI.2.1 (by omega) w2;obtain ⟨x3,y3⟩:=ZpR hI.2.2 (by omega) w2;rw[y1,Bq,y2,Bq,y3,Bq];rfl
  ·intro s hI hs
   simp only[ZaS,Uf,Uh];rw[hs];rfl
theorem Ztp {b:Za} {e:Zj} (h:Zii b e) (he:sm XO e) {t:Zh} (ht:Zlw (2*((places (KZ b)).length:Int)) t) :
  ∃ o n,Zae e b t=some o/\ZgG b e t=some o/\ZsK n o/\n<=200:=by
 obtain ⟨r,r1,r2,r3,_,r5⟩:=Zrb h he;have hpr:=Z0 r3.ok.1.few;obtain ⟨v,hv1,hv2,_⟩:=ZnA r3;obtain ⟨l1,l2⟩:=Zwj h r3 r5 ht;unfold Zae ZgG;rw[r1,r2,Bq,Bq,hv1,Bq,Zo5 r3.ok.1.few v hv2,Bq,ZiG h,Bq,show ZbU (K9 t)=some ((K9 t).length:Int) from rfl,Bq,
  Zhc r3.ok.1.few,Bq,show (2*((places (KZ r)).length:Int))=((2*(places (KZ r)).length:Nat):Int) by omega,ZqS (by omega),Bq,Zkc h,Bq]
 exact ⟨_,_,l1,l2,Zxr _ _ _,by omega⟩
theorem ZpS (b:Za) (e:Zj) (t:Zh) (hb:sm ZT b) (he:sm XO e):∃ r n,Zd5 b e t=some r/\ZbX b e t=some r/\ZsK n r.1/\n<=200:=by
 obtain ⟨c,h1,h2,h3⟩:=Zng b e hb he;unfold Zd5 ZbX;rw[h1,h2,Bq,Bq];by_cases hc:c=0
 ·have h:=h3 hc
  obtain ⟨v,hv1,hv2,_⟩:=ZnA h.blk;rw[Uc hc,Uc hc,hv1,Bq,Zlb h.blk v hv2,ZqP h.blk,Bq,Bq];by_cases hT:Zlw (2*((places (KZ b)).length:Int)) t
  ·obtain ⟨o,n,o1,o2,o3,o4⟩:=Ztp h he hT
   rw[Uc (ZU hT),Uc (ZU hT),o1,o2];exact ⟨_,n,rfl,rfl,o3,o4⟩
  ·rw[Ud (λq=>hT ((YS _).1 q)),Ud (λq=>hT ((YS _).1 q))]
   exact ⟨_,0,rfl,rfl,⟨rfl,rfl,rfl⟩,by omega⟩
 ·rw[Ud hc,Ud hc]
  exact ⟨_,0,rfl,rfl,⟨rfl,rfl,rfl⟩,by omega⟩
theorem ZEr {l:List Int} {x:Int}:x∈srt l<->x∈l:=List.mem_mergeSort
theorem ZBp (l:List Int):(srt l).length=l.length:=List.length_mergeSort _
theorem ZAH {l:List Int} {x:Int}:x∈ZoR l<->x∈l:=by
 unfold ZoR Lib.compactUpTo;rw[Kq];constructor
 ·rintro ⟨j,hj,rfl⟩
  have hj:=Kz.1 (KQ.1 hj).1;rw[getElem!_pos _ j hj];exact List.getElem_mem (by simpa using hj)
 ·intro h
  obtain ⟨j,hj,e⟩:=List.getElem_of_mem h;have key:∀ (n j:Nat),j<=n->(hj:j<l.length)->l[j]=x->∃ a,a∈(List.range l.toArray.size).filter (Lib.keeps l.toArray)/\l.toArray[a]! = x:=by
   intro n;induction n with
   | zero =>
    intro j hn hj e;have:j=0:=by omega
    subst this;refine ⟨0,KQ.2 ⟨Kz.2 (by simpa using hj),by unfold Lib.keeps;simp⟩,?_⟩;rw[getElem!_pos _ 0 (by simpa using hj)];exact e
   | succ n ih =>
    intro j hn hj e;have e2:l.toArray[j]! = x:=by rw[getElem!_pos _ j (by simpa using hj)];exact e
    by_cases hk:Lib.keeps l.toArray j=true
    ·exact ⟨j,KQ.2 ⟨Kz.2 (by simpa using hj),hk⟩,e2⟩
    ·unfold Lib.keeps at hk
     have hk2:¬(j=0\/l.toArray[j]!≠l.toArray[j-1]!):=λq=>hk (UX q);have hj0:j≠0:=λq=>hk2 (.inl q);have he:l.toArray[j]! = l.toArray[j-1]! := Decidable.byContradiction λq=>hk2 (.inr q);refine ih (j-1) (by omega) (by omega) ?_;rw[e2,getElem!_pos _ (j-1) (by simp only[Ke];omega)] at he;exact he.symm
  exact key j j (UK _) hj e
theorem ZB6 (l:List Int):(ZoR l).length<=l.length:=Zrg l
theorem ZnE (l:List Int) (x:Int) (hl:l.length<=1048576):Yc l x=some (decide (x∈l)):=by
 have hL:Len l:=by unfold Len;omega
 unfold Yc Xl;rw[X5 (l:=l) hL (p:=λy=>decide (x=y)) (out:=λi=>i) (step:=λv=>Yo l x v.1)
  (λk y hy=>by
   have hk:=(Ub.1 hy).1;simp only[Yo,show (k:Int)<(l.length:Int) from by omega,Uj,Zm,hy,Bq,Uk];split<;>rfl)
  (by simp only[Yo,Uf,Uh]),Bq]
 congr 1;apply Kp.2;rw[U3,U3,Qw];simp
noncomputable def ZmO (nets:List Int) (k:Nat) (p:Pl):List Int:=if p.2.2.1∈nets then [2*(k:Int),2*(k:Int)+1] else []
noncomputable def ZGh (r:Za) (nets:List Int):List Int:=cat (ZmO nets) 0 (places (KZ r))
theorem ZtB {nets:List Int} {k:Nat} {p:Pl} (h:p.2.2.1∈nets):ZmO nets k p=[2*(k:Int),2*(k:Int)+1]:=Uc h
theorem ZtA {nets:List Int} {k:Nat} {p:Pl} (h:¬p.2.2.1∈nets):ZmO nets k p=[]:=Ud h
theorem ZyS (nets:List Int) (k:Nat) (p:Pl):(ZmO nets k p).length<=2:=by
 unfold ZmO;split<;>simp
theorem Ztj (l:List Int) (x:Int) (hl:l.length<=1048576):ZbL l x=some (decide (x∈l)):=by
 have hL:Len l:=by unfold Len;omega
 unfold ZbL;rw[X5 (l:=l) hL (p:=λy=>decide (y=x)) (out:=λi=>decide (0<=i)) (step:=λv=>Qf l x v.1)
  (λk y hy=>by
   have hk:=(Ub.1 hy).1;simp only[Qf,show (k:Int)<(l.length:Int) from by omega,Uj,Zm,hy,Bq,Uk];split
   ·rw[show decide ((0:Int)<=(k:Int))=true from UX (by omega)]
   ·rfl)
  (by simp only[Qf,Uf,Uh];rfl)]
 congr 1;apply Kp.2;rw[U3,U3,Qw];simp
theorem Zzp {b:Za} {e:Zj} (h:Zii b e):∃ l l',Zbj b e=some l/\Jt e b=some l'/\(∀ x,x∈l'<->x∈l)/\l.length<=1048576/\l'.length<=1048576:=by
 have hf:=h.blk.ok.1.few;have hw:(K2 b).length=(K6 (KZ b)).length:=h.blk.ok.2.1;have fin:∀ l:List Int,0<l.length->l.length<=1048576->∃ l',((Zzz l).bind λs=>(Zk6 s).bind λc=>some c)=some l'/\(∀ x,x∈l'<->x∈l)/\l'.length<=1048576:=by
  intro l h0 h1;refine ⟨ZoR (srt l),?_,λx=>by rw[ZAH,ZEr],?_⟩
  ·unfold Zzz Zk6
   rw[Uc (by omega),Bq,Uc (by rw[ZBp];exact h0)];rfl
  ·have:=ZB6 (srt l)
   rw[ZBp] at this;omega
 unfold Zbj Jt;simp only[Yg _ hf,ZN _ hf,Bq];by_cases k1:K5 e=1
 ·obtain ⟨p,x,c,c2,hp,h0,hd,hx,_⟩:=h.poss.1 k1
  have hx2:=hx;have hxl:(K1 (KZ b))[p.1.toNat]?=some x:=by
   obtain ⟨x',h1,h2⟩:=ZtO hp.mem h0;have:=YD h0 h1;rw[hx] at this;injection this with this;rw[this];exact h1
  have h5:=hf.nets x (Ue hxl);have hpos:0<(Gb x).length:=by
   obtain ⟨i,j,x',n,h1,h2,h3,h4⟩ | ⟨j,q,h1,h2,h3⟩:=JG hp.2
   ·have hi:p.1=(i:Int):=by rw[h4];rfl
    rw[hi,Up] at hxl;rw[hxl] at h1;injection h1 with h1;subst h1
    have:=(Ub.1 h2).1;omega
   ·rw[h3] at h0;exact absurd (show (0:Int)<=-1 from h0) (by decide)
  obtain ⟨l',f1,f2,f3⟩:=fin (Gb x) hpos (by omega);have hcl:ZF (Gb x)=some (Gb x):=Zb0 _ (by omega);rw[Uc k1,Uc k1,hp.at,Bq,Bq,show atI (K1 (KZ b)) (GL p)=some x from hx,Bq,Bq,hcl,Bq];exact ⟨_,l',rfl,f1,f2,by omega,f3⟩
 rw[Ud k1,Ud k1];by_cases k2:K5 e=2
 ·obtain ⟨p,c,hp,hd,_⟩:=h.poss.2.1 k2
  obtain ⟨l',f1,f2,f3⟩:=fin [p.2.2.1,((K6 (KZ b)).length:Int)] (by simp) (by simp);rw[Uc k2,Uc k2,hp.at,Bq,Bq,hw,show Xh (K6 (KZ b))=some ((K6 (KZ b)).length:Int) from rfl,Bq];exact ⟨_,l',rfl,f1,f2,by simp,f3⟩
 rw[Ud k2,Ud k2];by_cases k3:K5 e=3
 ·obtain ⟨hn,x,hx,hx2⟩:=h.last k3
  have h14:=hf.insts;obtain ⟨y,hy⟩:∃ y,(Gb x)[0]?=some y:=⟨_,Ua (by omega)⟩;have e1:atI (K1 (KZ b)) (Wq (((K1 (KZ b)).length:Int)-1))=some x:=by
   rw[YZ (by omega) (by omega)];exact YD (by omega) (by rw[show (((K1 (KZ b)).length:Int)-1).toNat=(K1 (KZ b)).length-1 by omega];exact hx)
  have e2:atI (Gb x) 0=some y:=YD (by omega) hy;obtain ⟨l',f1,f2,f3⟩:=fin [y] (by simp) (by simp);rw[Uc k3,Uc k3,e1,Bq,Bq,e2,Bq,Bq];exact ⟨_,l',rfl,f1,f2,by simp,f3⟩
 rw[Ud k3,Ud k3];by_cases k4:K5 e=4
 ·obtain ⟨p,hp,hd,hne⟩:=h.poss.2.2.2.1 k4
  obtain ⟨l',f1,f2,f3⟩:=fin [p.2.2.1,Gs e] (by simp) (by simp);rw[Uc k4,Uc k4,hp.at,Bq,Bq];exact ⟨_,l',rfl,f1,f2,by simp,f3⟩
 rw[Ud k4,Ud k4];have k5:K5 e=5:=by have:=h.blank;unfold Blank at this;omega
 obtain ⟨l',f1,f2,f3⟩:=fin [Gs e] (by simp) (by simp);rw[Uc k5];exact ⟨_,l',rfl,f1,f2,by simp,f3⟩
theorem ZCf {b:Za} {e:Zj} (h:Zii b e) (he:sm XO e):∃ l,Za2 e b=some l/\Zds b e=some l/\l.length<=200:=by
 obtain ⟨r,r1,r2,r3,_⟩:=ZBW h he;have hf:=r3.ok.1.few;have hpl:=Z0 hf;obtain ⟨l,l',h1,h2,h3,h4,h5⟩:=Zzp h;have hcl:∀ k,(cat (ZmO l) 0 ((places (KZ r)).take k)).length<=2*78:=λk=>by
  refine Kv (ZaE (c:=2) (λj x _=>ZyS l j x)) ?_;rw[Ui];omega
 unfold Za2 Zds;rw[h1,h2,r1,r2,Bq,Bq,Bq,Bq,ZN _ hf,Yg _ hf,Bq,Bq];refine ⟨ZGh r l,?_,?_,?_⟩
 ·refine Xr (l:=places (KZ r)) (ZmO l) [] (λk x hx hk=>?_) ?_
  ·have hg:∀ p q:Int,(([]++cat (ZmO l) 0 ((places (KZ r)).take k)).length+[p,q].length)*8<=140737488355328:=λp q=>by
    rw[Us];have:=hcl k;simp only[Uz,Ux];omega
   have hq:(ZH.net x∈l')=(x.2.2.1∈l):=propext (h3 _);simp only[VG,show (k:Int)<((places (KZ r)).length:Int) from by omega,Uj,Zm,hx,Bq,ZnE l' _ h5,Uk,hq,Y4 (show k<=1048576 by omega),YZ (show (-9223372036854775808:Int)<=2*(k:Int) by omega) (by omega),YZ (show (-9223372036854775808:Int)<=2*(k:Int)+1 by omega) (by omega)];by_cases c:x.2.2.1∈l
   ·rw[Uc c,ZtB c,Zg (hg _ _)]
   ·rw[Ud c,ZtA c,Uo]
  ·simp only[VG,Uf,Uh,Us]
   rfl
 ·refine Xr (l:=places (KZ r)) (ZmO l) [] (λk x hx hk=>?_) ?_
  ·have hg:∀ p q:Int,(([]++cat (ZmO l) 0 ((places (KZ r)).take k)).length+[p,q].length)*8<=140737488355328:=λp q=>by
    rw[Us];have:=hcl k;simp only[Uz,Ux];omega
   have hq:(ZE.net x∈l)=(x.2.2.1∈l):=rfl;simp only[JQ,show (k:Int)<((places (KZ r)).length:Int) from by omega,Uj,Zm,hx,Bq,Ztj l _ h4,Uk,hq,Y4 (show k<=1048576 by omega),YZ (show (-9223372036854775808:Int)<=2*(k:Int) by omega) (by omega),YZ (show (-9223372036854775808:Int)<=2*(k:Int)+1 by omega) (by omega)];by_cases c:x.2.2.1∈l
   ·rw[Uc c,ZtB c,Zg (hg _ _)]
   ·rw[Ud c,ZtA c,Uo]
  ·simp only[JQ,Uf,Uh,Us]
   rfl
 ·have:=hcl (places (KZ r)).length
  rw[Um] at this;exact Kv this (by omega)
theorem ZAu (b:Za) (e:Zj) (c:ZA) (l:List Zk) (t:Zh) (hb:sm ZT b) (he:sm XO e) (hc:sm XW c) (hl:l.length<=1048576) :
  ∃ r n,JW b e c l t=some r/\JY b e c l t=some r/\r.2.1.length<=1048576/\ZpW n r.1/\n<=1048576:=by
 have hnil:ZpW 0 noT:=⟨rfl,rfl,rfl,λs hs=>by cases hs⟩;obtain ⟨rs,s1,s2,s3⟩:=Zso b e l hb he hl;unfold JW JY;rw[s1,s2,Bq,Bq];by_cases h1:rs.2=0
 ·obtain ⟨rt,n,t1,t2,_,_⟩:=ZpS b e t hb he
  rw[Uc h1,Uc h1,t1,t2,Bq,Bq];by_cases h2:rt.2=0
  ·rw[Uc h2,Uc h2]
   have hcan:Zii b e:=by
    obtain ⟨k,k1,k2,k3⟩:=Zng b e hb he;refine k3 ?_;unfold ZbX at t2;rw[k2,Bq] at t2;by_cases hk:k=0
    ·exact hk
    ·rw[Ud hk] at t2
     injection t2 with t2
     rw[<-t2] at h2;exact absurd h2 hk
   obtain ⟨a,a1,a2,a3,_⟩:=Zrb hcan he;obtain ⟨d,d1,d2,d3⟩:=ZCf hcan he;obtain ⟨r,m,u1,u2,u3,u4,u5⟩:=ZBA a c [] rs.1 rt.1 d a3.sm hc (by simp) s3 (by omega);rw[a1,a2,Bq,Bq,d1,d2,Bq,Bq];refine ⟨r,m,?_,?_,u3,u4,u5⟩
   ·rw[u1];rfl
   ·rw[u2];rfl
  ·rw[Ud h2,Ud h2]
   exact ⟨_,0,rfl,rfl,by simp,hnil,by omega⟩
 ·rw[Ud h1,Ud h1]
  exact ⟨_,0,rfl,rfl,by simp,hnil,by omega⟩
theorem ZyW (a:Zh) (h:tot Yf a<=1048576):cnt Yf a<=100+20*1048576:=by
 have hc:=Zrf Yf a;have h1:wid Yf<=100:=by decide
 have h2:Ze2 Yf<=20:=by decide
 have:=UO (tot Yf a) h2;omega
theorem Zv8 {t:Zh} {n:Nat} (h:ZsK n t) (hn:n<=1048576):cnt Yf t<=100+20*4194304:=by
 have hc:=Zrf Yf t;have h1:wid Yf<=100:=by decide
 have h2:Ze2 Yf<=20:=by decide
 have h4:∀ (u:Ty) (l:List u.den),Ty.fixed u=true->tot (.sl u) l=l.length:=λu l hu=>by rw[Zkh,Zl9 hu];omega
 have h3:tot Yf t<=4194304:=by
  have e:tot Yf t=tot (.sl .bool) t.1+(tot (.sl YU) t.2.1+(tot (.sl YU) t.2.2.1+0)):=rfl;rw[e,h4 _ _ rfl,h4 _ _ rfl,h4 _ _ rfl,show t.1.length=n from h.1,show t.2.1.length=n from h.2.1,show t.2.2.1.length=n from h.2.2];omega
 have:=Ko h2 h3;omega
theorem ZCo (a:List Zk) (h:tot (.sl Z7) a<=1048576):cnt (.sl Z7) a<=100+20*1048576:=by
 have hc:=Zrf (.sl Z7) a;have h1:wid (.sl Z7)<=100:=by decide
 have h2:Ze2 (.sl Z7)<=20:=by decide
 have:=UO (tot (.sl Z7) a) h2;omega
theorem ZEH {t:Zh} {n:Nat} (h:ZpW n t) (hn:n<=1048576):sm Yf t :=
 ⟨⟨by rw[show t.1.length=n from h.lr];omega,λx _=>Xx _ (by rfl) x⟩,⟨by rw[show t.2.1.length=n from h.la];omega,λx _=>Xx _ (by rfl) x⟩,⟨by rw[show t.2.2.1.length=n from h.ls];omega,λx _=>Xx _ (by rfl) x⟩,trivial⟩
theorem cntT_edit (r : Zj) (h : sm XO r) : ZnK XO r ≤ 4194304 := by
  obtain ⟨a1, a2, a3, a4⟩ := Zm4 (ZtT h).2
  have s1 := Zu a1
  have s2 := Zu a2
  have s3 := Zu a3
  have s4 := Zu a4
  have e : ZnK XO r = cnt (.sl (.int .i64)) (K3 (GB r)) + (cnt (.sl (.int .i64)) (Gy (GB r)) + (cnt (.sl (.int .i64)) (GD (GB r)) + cnt (.sl (.int .i64)) (Gk (GB r)))) := by
    simp only [ZnK, Uw, Kd]
  rw [e, ZB7, ZB7, ZB7, ZB7]
  omega
theorem ZfK (a0:Za) (a1:Zj) (a2:ZA) (a3:List Zk) (a4:Zh) (b0:bnd ZT a0) (b1:bnd XO a1) (b2:bnd XW a2) (b3:bnd (.sl Z7) a3) (b4:bnd Yf a4):Xz a0 a1 a2 a3 a4=some true:=by
 unfold Xz;obtain ⟨n,e,hle,hP⟩:=ZrN a0 1048576 (by omega) (by omega) b0;rw[e,Bq];by_cases hn:n<0
 ·rw[Uc hn]
 rw[Ud hn];have hs:=hP (by omega);have ht:=Zqw a0 1048576 (by omega) (by omega) b0 n e (by omega);obtain ⟨n1,e1,hle1,hP1⟩:=Zs5 a1 n (by omega) (by omega) b1;rw[e1,Bq];by_cases hn1:n1<0
 ·rw[Uc hn1]
 rw[Ud hn1];have hs1:=hP1 (by omega);have ht1:=ZrR a1 n (by omega) (by omega) b1 n1 e1 (by omega);obtain ⟨n2,e2,hle2,hP2⟩:=Zqz a2 n1 (by omega) (by omega) b2;rw[e2,Bq];by_cases hn2:n2<0
 ·rw[Uc hn2]
 rw[Ud hn2];have hs2:=hP2 (by omega);obtain ⟨n3,e3,hle3,hP3⟩:=Zpr a3 n2 (by omega) (by omega) b3;rw[e3,Bq];by_cases hn3:n3<0
 ·rw[Uc hn3]
 rw[Ud hn3];have hs3:=hP3 (by omega);have ht3:=Zoo a3 n2 (by omega) (by omega) b3 n3 e3 (by omega);obtain ⟨n4,e4,hle4,hP4⟩:=ZqD a4 n3 (by omega) (by omega) b4;rw[e4,Bq];by_cases hn4:n4<0
 ·rw[Uc hn4]
 rw[Ud hn4];have hs4:=hP4 (by omega);have ht4:=Zpt a4 n3 (by omega) (by omega) b4 n4 e4 (by omega);have hcb:=ZAi a0 (by omega);have hce:=cntT_edit a1 hs1;have hcs:=ZCo a3 (by omega);have hct:=ZyW a4 (by omega);have hct4:=Zt5 Yf a4;have hl3:a3.length<=1048576:=by have:=hs3.1;omega
 obtain ⟨r,rn,c1,c2,c3,c4,c5⟩:=ZAu a0 a1 a2 a3 a4 hs hs1 hs2 hl3;have d1:=ZEH c4 c5;have d2:=Zv8 (t:=r.1) (n:=rn) ⟨c4.lr,c4.la,c4.ls⟩ c5;have d3:=Zt5 Yf r.1;have d4:=ZB7 r.2.1;have hr:=ZGH r.2.1 (by omega);obtain ⟨m0,hm0⟩:=Zpi a0 1 hs (by omega) (by omega);have hm1:=Zqt a1 (1+((cnt ZT a0:Nat):Int)) hs1 (by omega) (by omega);obtain ⟨m3,hm3⟩:=Znp a3 (1+((cnt ZT a0:Nat):Int)+((ZnK XO a1:Nat):Int)) hs3 (by omega) (by omega);have hm4:=Zjh a4 (1+((cnt ZT a0:Nat):Int)+((ZnK XO a1:Nat):Int)+((cnt (.sl Z7) a3:Nat):Int)) hs4 (by omega) (by omega);have hm6:=Zjh r.1 1 d1 (by omega) (by omega);have hm7:=Zam r.2.1 (1+((ZnK Yf r.1:Nat):Int)) hr (by omega) (by omega);have hm8:=Zoh r.1 1 d1 (by omega) (by omega);have hm9:=Zog r.2.1 (1+((ZnK Yf r.1:Nat):Int)) hr (by omega) (by omega);have hneg:¬(1+((cnt ZT a0:Nat):Int)+((ZnK XO a1:Nat):Int)+((cnt (.sl Z7) a3:Nat):Int)+((ZnK Yf a4:Nat):Int))<0:=by omega
 have hneg2:¬(1+((ZnK Yf r.1:Nat):Int))<0:=by omega
 have hneg3:¬(1+((ZnK Yf r.1:Nat):Int)+((cnt (.sl (.int .i64)) r.2.1:Nat):Int))<0:=by omega
 simp only[ZrW _ hs,Zta _ hs1,ZqF _ hs2,Zpx _ hs3,ZqI _ hs4,Bq,c1,c2,Zld _ d1,XY _ hr,Zs0 _ hs1,ZrG _ hs,Zpf _ hs3,Zld _ hs4,Uj,hm0,hm1,hm3,hm4,hm6,hm7,hm8,hm9,hneg,hneg2,hneg3,Uh]
end Go.Proofs.YtjepimjoknccmaaGreatDoor
