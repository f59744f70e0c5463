/-
  Plain laws: externals, setups; the law.
-/
import Derived.Test.YtmihfdfjccociaaGreatDoorLA
import Derived.Test.YtmihfdfjccociaaGreatDoorM
import Derived.Test.YtmihfdfjccociaaGreatDoorE1
namespace Go.Proofs.YtmihfdfjccociaaGreatDoor
set_option linter.unusedVariables false
set_option linter.unusedSimpArgs false
open Go Go.Sx
theorem Zoy {ρ:Type} {P Q:Prop} {_:Decidable P} {m:Option ρ} {a b:ρ} (hm:P->m=some (sel Q a b)):(if P then m else some b)=some (sel (P/\Q) a b):=by
 by_cases h:P
 ·rw[Uf h,hm h]
  by_cases q:Q
  ·rw[YM q,YM ⟨h,q⟩]
  ·rw[YA q,YA (λx=>q x.2)]
 ·rw[Ug h,YA (λq=>h q.1)]
theorem ZfX {ρ:Type} {P Q:Prop} {_:Decidable P} {m:Option ρ} {a b:ρ} (hm:¬P->m=some (sel Q a b)):(if P then some b else m)=some (sel (¬P/\Q) a b):=by
 by_cases h:P
 ·rw[Uf h,YA (λq=>q.1 h)]
 ·rw[Ug h,hm h]
  by_cases q:Q
  ·rw[YM q,YM ⟨h,q⟩]
  ·rw[YA q,YA (λx=>q x.2)]
theorem Zd3 {ρ:Type} {P Q:Prop} {c:Option Bool} {m:Option ρ} {a b:ρ} (h:c=some (tr P)) (hm:P->m=some (sel Q a b)):(c.bind λx=>if x=true then m else some b)=some (sel (P/\Q) a b):=by
 rw[h,Bq];by_cases hp:P
 ·rw[Uf (Yc hp),hm hp]
  by_cases q:Q
  ·rw[YM q,YM ⟨hp,q⟩]
  ·rw[YA q,YA (λx=>q x.2)]
 ·rw[Ug (by rw[ZM hp];simp),YA (λq=>hp q.1)]
theorem ZrH {ρ:Type} {a b:ρ}:some a=some (sel True a b):=by rw[YM trivial]
theorem ZfW {ρ:Type} {m:Option ρ} {P Q:Prop} {a b:ρ} (h:m=some (sel P a b)) (hpq:P<->Q):m=some (sel Q a b):=by rw[h,propext hpq]
theorem ZnL {ρ:Type} {m:Option ρ} {P:Prop} {a b:ρ} (h:m=some (sel P a b)):(P->m=some a)/\(¬P->m=some b):=⟨λq=>by rw[h,YM q],λq=>by rw[h,YA q]⟩
def ZkP (s:ZC):Prop:=KA s<=KF s/\-100000<=KA s/\KF s<=100000
def ZrM (pl:List Pl) (drv:Bool) (i:Int):Prop:=∃ p,atI pl i=some p/\p.1<0/\p.2.2.2.1=drv
def ZfY (pl:List Pl) (nc:Int) (drv:Bool) (l:List Zb) (k:Nat) (x:Zb):Prop :=
 (0<=Kv x/\Kv x<=(pl.length:Int)-1)/\ZrM pl drv (Kv x)/\(∀ y,0<k->l[k-1]?=some y->Kv y<Kv x)/\
 (0<=KL x/\KL x<=nc-1)/\ZkP (Kz x)/\Zcl (Gc x)/\(drv=false->KA (Gc x)=0/\KF (Gc x)=0)
def ZdY (pl:List Pl) (nc:Int) (drv:Bool) (l:List Zb):Prop:=ZcN l (ZfY pl nc drv l)
theorem Ze7 (v:Yr) (i:Int) (hn:(KG v).length<=1048576):Qn v i=some (tr (0<=i/\i<=((KG v).length:Int)-1)):=by
 unfold Qn;rw[show YB (KG v)=some ((KG v).length:Int) from rfl,Bq,Xa (by omega) (by omega)];exact Zax (YQ _ _ _)
theorem ZiW {s:ZC}:(Decidable.decide (KA s=(0:Int))&&Decidable.decide (KF s=(0:Int)))=true<->KA s=0/\KF s=0:=by simp
theorem Zct {pl:List Pl} {drv:Bool} {i:Int} {p:Pl} (h:atI pl i=some p):ZrM pl drv i<->¬(0:Int)<=p.1/\(p.2.2.2.1 == drv)=true:=by
 unfold ZrM;rw[h,UU];constructor
 ·rintro ⟨q,q1,q2,q3⟩
  injection q1 with q1
  subst q1;exact ⟨by omega,q3⟩
 ·rintro ⟨q1,q2⟩
  exact ⟨p,rfl,by omega,q2⟩
theorem Zfq {l:List Zb} {k:Nat} {x y:Zb} (hk:0<k) (hy:l[k-1]?=some y):(∀ y,0<k->l[k-1]?=some y->Kv y<Kv x)<->¬Kv x<=Kv y:=by
 constructor
 ·intro h
  have:=h y hk hy;omega
 ·intro h z _ hz
  rw[hy] at hz;injection hz with hz
  subst hz;omega
theorem Zee {l:List Zb} {k:Nat} {x:Zb} (hk:¬0<k):(∀ y,0<k->l[k-1]?=some y->Kv y<Kv x)<->True:=⟨λ_=>trivial,λ_ y h=>absurd h hk⟩
theorem ZcQ (v:Yr) (l:List Zb) (drv:Bool) (nc:Int) (h:sm (.sl Qy) l) (hn:(KG v).length<=1048576) (h0:0<=nc) (h1:nc<=1048576):Xw v l drv nc=some (tr (ZdY (KG v) nc drv l)):=by
 have hs:=Zw h;have e1:Wq (nc-1)=nc-1:=Xa (by omega) (by omega);unfold Xw;rw[XJ (Yt h) (ZfY (KG v) nc drv l) (bad:=false) (good:=true)
  (λk x hx hk _=>by
   refine ZnL ?_;simp only[Qd,show (k:Int)<(l.length:Int) from by omega,Um,Zy,hx,Bq,e1];refine ZfW (Q:=ZfY (KG v) nc drv l k x) (P:=(0<=Kv x/\Kv x<=((KG v).length:Int)-1)/\ZfY (KG v) nc drv l k x) (Zd3 (Ze7 v _ hn) (λhp=>?_)) ⟨λq=>q.2,λq=>⟨q.1,q⟩⟩;obtain ⟨p,hp1,_⟩:=ZkX hp.1 (show Kv x<((KG v).length:Int) by omega);rw[hp1,Bq];by_cases hk0:0<k
   ·obtain ⟨y,hy⟩:∃ y,l[k-1]?=some y:=⟨_,Ub (by omega)⟩
    rw[Uf (show (0:Int)<(k:Int) by omega),Zib (by omega) (by omega),Zy,hy,Bq];cases drv
    ·simp only[UN,Uk]
     refine ZfW (ZfX (λ_=>Zoy (λ_=>ZfX (λ_=>Zd3 (YQ _ _ _) (λ_=>Zd3 (VZ _) (λ_=>ZfX (λ_=>ZfX (λ_=>Zoy (λ_=>ZrH))))))))) ?_;unfold ZfY;rw[Zct hp1,Zfq hk0 hy,ZiW];unfold ZkP Zcl ZeR;grind
    ·simp only[Um]
     refine ZfW (ZfX (λ_=>Zoy (λ_=>ZfX (λ_=>Zd3 (YQ _ _ _) (λ_=>Zd3 (VZ _) (λ_=>ZfX (λ_=>ZfX (λ_=>Zd3 (ZcF _) (λ_=>ZrH))))))))) ?_;unfold ZfY;rw[Zct hp1,Zfq hk0 hy];unfold ZkP Zcl ZeR;grind
   ·rw[Ug (show ¬(0:Int)<(k:Int) by omega)]
    cases drv
    ·simp only[UN,Uk]
     refine ZfW (ZfX (λ_=>Zoy (λ_=>Zd3 (YQ _ _ _) (λ_=>Zd3 (VZ _) (λ_=>ZfX (λ_=>ZfX (λ_=>Zoy (λ_=>ZrH)))))))) ?_;unfold ZfY;rw[Zct hp1,Zee hk0,ZiW];unfold ZkP Zcl ZeR;grind
    ·simp only[Um]
     refine ZfW (ZfX (λ_=>Zoy (λ_=>Zd3 (YQ _ _ _) (λ_=>Zd3 (VZ _) (λ_=>ZfX (λ_=>ZfX (λ_=>Zd3 (ZcF _) (λ_=>ZrH)))))))) ?_;unfold ZfY;rw[Zct hp1,Zee hk0];unfold ZkP Zcl ZeR;grind)
  (λ_=>by simp only[Qd,Uh,Uk]),Zhg]
 rfl
theorem ZcR (b:Zi) (s:Zh) (l:List Zb) (drv:Bool) (h:sm (.sl Qy) l) (hf:Few (Kq b)) (hc:(Kt s).length<=1048576):Vt b s l drv=some (tr (ZdY (places (Kq b)) ((Kt s).length:Int) drv l)):=by
 have hs:=Zw h;have hpl:=XQ hf;have e1:Wq (((Kt s).length:Int)-1)=((Kt s).length:Int)-1:=Xa (by omega) (by omega);have e2:Wq (((places (Kq b)).length:Int)-1)=((places (Kq b)).length:Int)-1:=Xa (by omega) (by omega);unfold Vt;rw[Vs _ hf,Bq];rw[XJ (Yt h) (ZfY (places (Kq b)) ((Kt s).length:Int) drv l) (bad:=false) (good:=true)
  (λk x hx hk _=>by
   refine ZnL ?_;simp only[VQ,show (k:Int)<(l.length:Int) from by omega,Um,Zy,hx,Bq,e1,e2];refine ZfW (Q:=ZfY (places (Kq b)) ((Kt s).length:Int) drv l k x) (P:=(0<=Kv x/\Kv x<=((places (Kq b)).length:Int)-1)/\ZfY (places (Kq b)) ((Kt s).length:Int) drv l k x) (Zd3 (QB _ _ _) (λhp=>?_)) ⟨λq=>q.2,λq=>⟨q.1,q⟩⟩;obtain ⟨p,hp1,_⟩:=ZkX hp.1 (show Kv x<((places (Kq b)).length:Int) by omega);rw[hp1];simp only[Bq];by_cases hk0:0<k
   ·obtain ⟨y,hy⟩:∃ y,l[k-1]?=some y:=⟨_,Ub (by omega)⟩
    rw[Uf (show (0:Int)<(k:Int) by omega),Zib (by omega) (by omega),Zy,hy,Bq];cases drv
    ·simp only[UN,Uk]
     refine ZfW (ZfX (λ_=>Zd3 (QB _ _ _) (λ_=>ZfX (λ_=>Zoy (λ_=>ZfX (λ_=>ZfX (λ_=>ZfX (λ_=>Zd3 (Zav _) (λ_=>Zoy (λ_=>ZrH)))))))))) ?_;unfold ZfY;rw[Zct hp1,Zfq hk0 hy,ZiW];unfold ZkP Zcl;grind
    ·simp only[Um]
     refine ZfW (ZfX (λ_=>Zd3 (QB _ _ _) (λ_=>ZfX (λ_=>Zoy (λ_=>ZfX (λ_=>ZfX (λ_=>ZfX (λ_=>Zd3 (Zav _) (λ_=>ZrH))))))))) ?_;unfold ZfY;rw[Zct hp1,Zfq hk0 hy];unfold ZkP Zcl;grind
   ·rw[Ug (show ¬(0:Int)<(k:Int) by omega)]
    cases drv
    ·simp only[UN,Uk]
     refine ZfW (Zd3 (QB _ _ _) (λ_=>ZfX (λ_=>Zoy (λ_=>ZfX (λ_=>ZfX (λ_=>ZfX (λ_=>Zd3 (Zav _) (λ_=>Zoy (λ_=>ZrH))))))))) ?_;unfold ZfY;rw[Zct hp1,Zee hk0,ZiW];unfold ZkP Zcl;grind
    ·simp only[Um]
     refine ZfW (Zd3 (QB _ _ _) (λ_=>ZfX (λ_=>Zoy (λ_=>ZfX (λ_=>ZfX (λ_=>ZfX (λ_=>Zd3 (Zav _) (λ_=>ZrH)))))))) ?_;unfold ZfY;rw[Zct hp1,Zee hk0];unfold ZkP Zcl;grind)
  (λ_=>by simp only[VQ,Uh,Uk]),Zhg]
 rfl
theorem Zp6 {s:Zh} (h:sm ZbO s):sm (.sl Jr) (Kt s)/\sm (.sl Qy) (K1 s)/\sm (.sl Qy) (K8 s)/\sm (.sl Qo) (KP s)/\sm (.sl Zaj) (Gr s):=by
 refine ⟨?_,?_,?_,?_,?_⟩;all_goals first | exact h.1 | exact h.2.1 | exact h.2.2.1 | exact h.2.2.2.1 | exact h.2.2.2.2.1
theorem Zrn {l:List Zd} (h:sm (.sl Jr) l):ZpN l:=by
 intro c hc;have:=ZkF h hc;refine Zdp ?_;first | exact this.1 | exact this.2.1
def ZeI (pl:List Pl) (s:Zh):Prop :=
 ZcT (Kt s)/\(∀ c∈Kt s,KH c<(pl.length:Int))/\ZdY pl ((Kt s).length:Int) true (K1 s)/\ZdY pl ((Kt s).length:Int) false (K8 s)/\
 (KP s).length<=6/\(∀ e∈KP s,ZiY pl.length e)/\ZeP (Gr s)
theorem ZcT.place {l:List Zd} (h:ZcT l) {c:Zd} (hc:c∈l):0<=KH c:=by
 obtain ⟨k,hk⟩:=Uu.1 hc;have h1:=h.2.1 k c (by have:=(Ua.1 hk).1;omega) hk;unfold Zdf Zff at h1;simp only[Ul,Uq] at h1;exact h1.1.1.1.1.1
theorem Zjq (v:Yr) (s:Zh) (h:sm ZbO s) (hn:(KG v).length<=1048576):JZ v s=some (tr (ZeI (KG v) s)):=by
 obtain ⟨a1,a2,a3,a4,a5⟩:=Zp6 h;have s1:=Zw a1;unfold JZ;rw[show V6 (Kt s)=some ((Kt s).length:Int) from rfl,Bq];refine ZbS (Yw (Zix _) (λhC=>Zm8 (P:=¬∀ c∈Kt s,KH c<((KG v).length:Int)) ?_ (λ_=>Yw (ZcQ v _ true _ a2 hn (by omega) (by omega)) (λ_=>Yw (ZcQ v _ false _ a3 hn (by omega) (by omega)) (λ_=>Zdd (λ_=>Zm8 (P:=¬∀ e∈KP s,ZiY (KG v).length e) ?_ (λ_=>(?_:_=some (tr (ZeP (Gr s))))))))))) ?_
 ·rw[Y2 (Yt a1) (λc=>!tr (0<=KH c/\KH c<=((KG v).length:Int)-1)) (λc _=>by
   unfold X6;show (Qn v (KH c)).bind _=_;rw[Ze7 v _ hn];rfl)]
  refine J9 ?_;rw[List.any_eq_true];constructor
  ·rintro ⟨c,hc,hb⟩ hall
   have:=hall c hc;have h0:=hC.place hc;rw[Yc (by omega)] at hb;cases hb
  ·intro hh
   apply UQ;intro hne;refine hh (λc hc=>?_);apply UQ;intro hlt;exact hne ⟨c,hc,by rw[ZM (by omega)];rfl⟩
 ·rw[YN (Yt a4) (λe=>!tr (ZiY (KG v).length e)) (λe he=>by
   unfold X7;show (XI v e).bind _=_;rw[Zd0 v e (ZkF a4 he) hn];rfl)]
  refine J9 ?_;rw[List.any_eq_true];constructor
  ·rintro ⟨c,hc,hb⟩ hall
   rw[Yc (hall c hc)] at hb;cases hb
  ·intro hh
   apply UQ;intro hne;refine hh (λc hc=>?_);apply UQ;intro hlt;exact hne ⟨c,hc,by rw[ZM hlt];rfl⟩
 ·by_cases h0:(Gr s).length=0
  ·rw[Uf (by omega)]
   refine J9 ⟨λ_=>?_,λ_=>rfl⟩;have:Gr s=[]:=Us h0;rw[this];exact ⟨by simp,λc hc=>(by cases hc),λj _ hj=>(by simp at hj)⟩
  ·rw[Ug (by omega),ZfD _ a5 h0];rfl
 ·unfold ZeI
  simp only[Classical.not_not];constructor
  ·rintro ⟨q1,q2,q3,q4,q5,q6,q7⟩;exact ⟨q1,q2,q3,q4,by omega,q6,q7⟩
  ·rintro ⟨q1,q2,q3,q4,q5,q6,q7⟩;exact ⟨q1,q2,q3,q4,by omega,q6,q7⟩
def ZkQ (b:Zi) (s:Zh):Prop:=Zhu b/\ZeI (places (Kq b)) s
theorem Zjj (b:Zi) (s:Zh) (hb:sm Vu b) (hs:sm ZbO s):Zcs b s=some (tr (ZkQ b s)):=by
 unfold Zcs;refine Yw (Zdj b hb) (λhB=>?_);obtain ⟨v,h1,h2,_⟩:=Zjy ⟨hB,hb⟩;have hpl:=XQ hB.1.few;rw[h1,Bq,Zjq v s hs (by rw[h2];omega),h2];rfl
theorem Zfl (b:Zi) (s:Zh) (hb:sm Vu b) (hs:sm ZbO s):Zcw b s=some (tr (ZkQ b s)):=by
 obtain ⟨a1,a2,a3,a4,a5⟩:=Zp6 hs;have s1:=Zw a1;have s4:=Zw a4;unfold Zcw;refine ZbS (Yw (Zfk b hb) (λhB=>Yw (ZcJ _ (Zrn a1) (by omega)) (λhC=>Zdd (λ_=>Yw (Zhn _ a5) (λ_=>(?_:_=some (tr (ZcN (Kt s) (λ_ c=>KH c<((places (Kq b)).length:Int))/\ZcN (KP s) (λ_ e=>ZiY (places (Kq b)).length e)/\ZdY (places (Kq b)) ((Kt s).length:Int) true (K1 s)/\ZdY (places (Kq b)) ((Kt s).length:Int) false (K8 s))))))))) ?_
 ·have hf:=hB.1.few
  have hpl:=XQ hf;rw[XJ (Yt a1) (λ_ c=>KH c<((places (Kq b)).length:Int)) (bad:=false) (good:=tr (ZcN (KP s) (λ_ e=>ZiY (places (Kq b)).length e)/\ZdY (places (Kq b)) ((Kt s).length:Int) true (K1 s)/\ZdY (places (Kq b)) ((Kt s).length:Int) false (K8 s)))
   (λk c hx hk _=>by
    simp only[Zbs,show (k:Int)<((Kt s).length:Int) from by omega,Um,Zy,hx,Bq,Vs _ hf];constructor
    ·intro hh;rw[Ug (by omega)]
    ·intro hh;rw[Uf (by omega)])
   (λ_=>by
    simp only[Zbs,Uh,Uk];rw[XJ (Yt a4) (λ_ e=>ZiY (places (Kq b)).length e) (bad:=.inr false) (good:=.inr (tr (ZdY (places (Kq b)) ((Kt s).length:Int) true (K1 s)/\ZdY (places (Kq b)) ((Kt s).length:Int) false (K8 s))))
     (λk e hx hk _=>by
      simp only[Zbr,show (k:Int)<((KP s).length:Int) from by omega,Um,Zy,hx,Bq,Zgh b ⟨hB,hb⟩ e (Zd5 a4 hx)];constructor
      ·intro hh;rw[Uf (Yc hh)]
      ·intro hh;rw[Ug (λq=>hh ((XD _).1 q))])
     (λ_=>by
      simp only[Zbr,Uh,Uk,ZcR b s _ _ a2 hf s1,ZcR b s _ _ a3 hf s1,Bq];by_cases q1:ZdY (places (Kq b)) ((Kt s).length:Int) true (K1 s)
      ·rw[Uf (Yc q1)]
       congr 3;exact YG ⟨λq=>⟨q1,q⟩,λq=>q.2⟩
      ·rw[Ug (λq=>q1 ((XD _).1 q)),ZM (λq=>q1 q.1)])]
    congr 1;by_cases q1:ZcN (KP s) (λ_ e=>ZiY (places (Kq b)).length e)
    ·rw[YM q1]
     congr 1;exact YG ⟨λq=>⟨q1,q⟩,λq=>q.2⟩
    ·rw[YA q1,ZM (λq=>q1 q.1)]),Zbp]
 ·unfold ZkQ ZeI
  rw[QL,QL];constructor
  ·rintro ⟨q1,q2,q3,q4,q5,q6,q7,q8⟩;exact ⟨q1,q2,q5,q7,q8,by omega,q6,q4⟩
  ·rintro ⟨q1,q2,q5,q7,q8,q3,q6,q4⟩;exact ⟨q1,q2,by omega,q4,q5,q6,q7,q8⟩
def Zdc {α:Type} (key:α->Int) (l:List α):Prop:=l.Pairwise λx y=>key x<key y
def Q9 {α:Type} (key:α->Int) (k:Int):List α->Nat
 | []=>0
 | x::l=>if key x<k then Q9 key k l+1 else 0
theorem ZhW {α:Type} (key:α->Int) (k:Int):∀ l:List α,Q9 key k l<=l.length
 | []=>UF _
 | x::l=>by
  unfold Q9;split
  ·have:=ZhW key k l
   rw[Ud];omega
  ·exact UE _
theorem Zgb {α:Type} (key:α->Int) (k:Int):∀ (l:List α) (x:α),x∈l.take (Q9 key k l)->key x<k
 | [],x,h=>by simp at h
 | y::l,x,h=>by
  unfold Q9 at h;split at h
  ·rename_i q
   rw[List.take_succ_cons] at h;rcases Uo.1 h with rfl | h
   ·exact q
   ·exact Zgb key k l x h
  ·rw[List.take_zero] at h;cases h
theorem Zfe {α:Type} {key:α->Int} {k:Int}:∀ {l:List α},Zdc key l->∀ x,x∈l.drop (Q9 key k l)->k<=key x
 | [],_,x,h=>by simp at h
 | y::l,hl,x,h=>by
  obtain ⟨h1,h2⟩:=UY.1 hl;unfold Q9 at h;split at h
  ·rw[List.drop_succ_cons] at h
   exact Zfe h2 x h
  ·rename_i q
   rw[Ke] at h;rcases Uo.1 h with rfl | h
   ·omega
   ·have:=h1 x h;omega
def Zil {α:Type} (key:α->Int) (l:List α) (a b:α):List α:=l.take (Q9 key (key a) l)++a::b::l.drop (Q9 key (key a) l)
theorem Zog {α:Type} {key:α->Int} {l:List α} {a b:α} (hl:Zdc key l) (hab:key a<key b) (h:∀ x∈l,key x<key a\/key b<key x):Zdc key (Zil key l a b):=by
 have hlo:=Zgb key (key a) l;have hhi:=Zfe (k:=key a) hl;have hb:∀ x∈l.drop (Q9 key (key a) l),key b<key x:=λx hx=>by
  have h1:=hhi x hx;rcases h x (List.mem_of_mem_drop hx) with q | q
  ·omega
  ·exact q
 unfold Zil Zdc;refine List.pairwise_append.2 ⟨hl.sublist (List.take_sublist _ _),List.Pairwise.cons ?_ (List.Pairwise.cons hb (hl.sublist (List.drop_sublist _ _))),?_⟩
 ·intro x hx
  rcases Uo.1 hx with rfl | hx
  ·exact hab
  ·have:=hb x hx;omega
 ·intro x hx y hy
  have h1:=hlo x hx;rcases Uo.1 hy with rfl | hy
  ·exact h1
  ·rcases Uo.1 hy with rfl | hy
   ·omega
   ·have:=hb y hy;omega
theorem ZaV {α:Type} {key:α->Int} {l:List α} {a b x:α}:x∈Zil key l a b<->x=a\/x=b\/x∈l:=by
 unfold Zil;rw[UC,Uo,Uo];constructor
 ·rintro (h | h | h | h)
  ·exact .inr (.inr (List.mem_of_mem_take h))
  ·exact .inl h
  ·exact .inr (.inl h)
  ·exact .inr (.inr (List.mem_of_mem_drop h))
 ·rintro (h | h | h)
  ·exact .inr (.inl h)
  ·exact .inr (.inr (.inl h))
  ·rw[<-List.take_append_drop (Q9 key (key a) l) l] at h
   rcases UC.1 h with q | q
   ·exact .inl q
   ·exact .inr (.inr (.inr q))
theorem ZjC {α:Type} {key:α->Int} {k:Int}:∀ {l:List α},Zdc key l->((∃ x∈l,key x=k)<->∃ x,l[Q9 key k l]?=some x/\key x=k)
 | [],_=>by simp[Q9]
 | y::l,hl=>by
  obtain ⟨h1,h2⟩:=UY.1 hl;unfold Q9;split
  ·rename_i q
   rw[UL,<-ZjC h2];constructor
   ·rintro ⟨x,hx,e⟩
    rcases Uo.1 hx with rfl | hx
    ·omega
    ·exact ⟨x,hx,e⟩
   ·rintro ⟨x,hx,e⟩
    exact ⟨x,List.mem_cons_of_mem _ hx,e⟩
  ·rename_i q
   rw[Kc];constructor
   ·rintro ⟨x,hx,e⟩
    rcases Uo.1 hx with rfl | hx
    ·exact ⟨x,rfl,e⟩
    ·have:=h1 x hx;omega
   ·rintro ⟨x,hx,e⟩
    injection hx with hx
    subst hx;exact ⟨_,U3,e⟩
structure ZeQ {α:Type} (key:α->Int) (A B:List α):Prop where
 mem:∀ x,x∈A<->x∈B
 inc:Zdc key B
 nod:(A.map key).Nodup
 prs:∀ p:Int,(∃ x∈B,key x=2*p)<->∃ x∈B,key x=2*p+1
 len:A.length=B.length
theorem ZeQ.nil {α:Type} (key:α->Int):ZeQ key [] [] :=
 ⟨λx=>Iff.rfl,List.Pairwise.nil,List.nodup_nil,λp=>by simp,rfl⟩
theorem Zoh {α:Type} (key:α->Int) (l:List α) (a b:α):(Zil key l a b).length=l.length+2:=by
 unfold Zil;have:=ZhW key (key a) l;simp only[Ue,Ud,Un,UD];omega
theorem ZeQ.add {α:Type} {key:α->Int} {A B:List α} (h:ZeQ key A B) {a b:α} {p:Int} (ha:key a=2*p) (hb:key b=2*p+1) (hn:¬∃ x∈B,key x=2*p):ZeQ key (A++[a,b]) (Zil key B a b):=by
 have hn2:¬∃ x∈B,key x=2*p+1:=λq=>hn ((h.prs p).2 q);have off:∀ x∈B,key x<key a\/key b<key x:=λx hx=>by
  have h1:key x≠2*p:=λe=>hn ⟨x,hx,e⟩;have h2:key x≠2*p+1:=λe=>hn2 ⟨x,hx,e⟩;omega
 refine ⟨λx=>?_,Zog h.inc (by omega) off,?_,λq=>?_,?_⟩
 ·rw[UC,ZaV,h.mem x]
  simp only[Uo,UI,U0];constructor
  ·rintro (w | w | w)
   ·exact .inr (.inr w)
   ·exact .inl w
   ·exact .inr (.inl w)
  ·rintro (w | w | w)
   ·exact .inr (.inl w)
   ·exact .inr (.inr w)
   ·exact .inl w
 ·rw[List.map_append,UK]
  refine ⟨h.nod,?_,?_⟩
  ·simp only[Kb,List.map_nil,List.nodup_cons,Uo,UI,U0,not_false_eq_true,List.nodup_nil,and_true]
   omega
  ·intro x hx y hy
   obtain ⟨z,hz,rfl⟩:=List.mem_map.1 hx;have:=off z ((h.mem z).1 hz);simp only[Kb,List.map_nil,Uo,UI,U0] at hy;rcases hy with rfl | rfl<;>omega
 ·have hq:=h.prs q
  constructor
  ·rintro ⟨x,hx,e⟩
   rcases ZaV.1 hx with rfl | rfl | hx
   ·exact ⟨b,ZaV.2 (.inr (.inl rfl)),by omega⟩
   ·omega
   ·obtain ⟨y,hy,e2⟩:=hq.1 ⟨x,hx,e⟩
    exact ⟨y,ZaV.2 (.inr (.inr hy)),e2⟩
  ·rintro ⟨x,hx,e⟩
   rcases ZaV.1 hx with rfl | rfl | hx
   ·omega
   ·exact ⟨a,ZaV.2 (.inl rfl),by omega⟩
   ·obtain ⟨y,hy,e2⟩:=hq.2 ⟨x,hx,e⟩
    exact ⟨y,ZaV.2 (.inr (.inr hy)),e2⟩
 ·rw[Ue,Zoh,h.len]
  rfl
theorem ZeQ.perm {α:Type} {key:α->Int} {A B:List α} (h:ZeQ key A B):B.Perm A:=by
 have hA:A.Nodup:=List.Pairwise.of_map key (λa b q e=>q (by rw[e])) h.nod;have hB:B.Nodup:=h.inc.imp λ{x y} q e=>by rw[e] at q;omega
 exact (List.perm_ext_iff_of_nodup hB hA).2 λx=>(h.mem x).symm
def Zm5 {α:Type} (key:α->Int) (q:α×α):Prop:=∃ p,key q.1=2*p/\key q.2=2*p+1
def Zdi {α:Type} (key:α->Int) (n:Int) (l:List α):Bool:=l.any λx=>decide (key x=n)
theorem Zc8 {α:Type} {key:α->Int} {n:Int} {l:List α}:Zdi key n l=true<->∃ x∈l,key x=n:=by
 unfold Zdi;rw[List.any_eq_true];constructor
 ·rintro ⟨x,h1,h2⟩;exact ⟨x,h1,of_decide_eq_true h2⟩
 ·rintro ⟨x,h1,h2⟩;exact ⟨x,h1,Kf h2⟩
def ZlG {α:Type} (key:α->Int) (A:List α) (q:α×α):List α:=if Zdi key (key q.1) A=true then A else A++[q.1,q.2]
def Zof {α:Type} (key:α->Int) (B:List α) (q:α×α):List α:=if Zdi key (key q.1) B=true then B else Zil key B q.1 q.2
theorem ZeQ.step {α:Type} {key:α->Int} {A B:List α} (h:ZeQ key A B) {q:α×α} (hq:Zm5 key q):ZeQ key (ZlG key A q) (Zof key B q):=by
 obtain ⟨p,h1,h2⟩:=hq;have e:Zdi key (key q.1) A=true<->Zdi key (key q.1) B=true:=by
  rw[Zc8,Zc8];constructor
  ·rintro ⟨x,hx,q⟩;exact ⟨x,(h.mem x).1 hx,q⟩
  ·rintro ⟨x,hx,q⟩;exact ⟨x,(h.mem x).2 hx,q⟩
 unfold ZlG Zof;by_cases c:Zdi key (key q.1) B=true
 ·rw[Uf c,Uf (e.2 c)];exact h
 ·rw[Ug c,Ug (λz=>c (e.1 z))]
  exact h.add h1 h2 (λz=>c (Zc8.2 (by rw[h1];exact z)))
theorem Zqw {α:Type} (key:α->Int) (A:List α) (q:α×α):(ZlG key A q).length<=A.length+2:=by
 unfold ZlG;split
 ·omega
 ·rw[Ue];exact UF _
theorem Zh2 {α β:Type} {key:α->Int} {g:Nat->β->α×α}:∀ (l:List β) (m:Nat) {A B:List α},ZeQ key A B->(∀ k x,l[k]?=some x->Zm5 key (g (m+k) x))->
  ZeQ key (foldI (λk x s=>ZlG key s (g k x)) m l A) (foldI (λk x s=>Zof key s (g k x)) m l B)
 | [],_,_,_,h,_=>h
 | x::l,m,A,B,h,hg=>by
  simp only[foldI];refine Zh2 l (m+1) (h.step (hg 0 x rfl)) (λk y hy=>?_);rw[show m+1+k=m+(k+1) by omega];exact hg (k+1) y (by rw[UL];exact hy)
theorem Zec {α β:Type} {key:α->Int} {g:Nat->β->α×α}:∀ (l:List β) (m:Nat) (A:List α),(foldI (λk x s=>ZlG key s (g k x)) m l A).length<=A.length+2*l.length
 | [],_,A=>by simp[foldI]
 | x::l,m,A=>by
  simp only[foldI];have h1:=Zec (key:=key) (g:=g) l (m+1) (ZlG key A (g m x));have h2:=Zqw key A (g m x);rw[Ud];omega
theorem ZsV {α:Type} {key:α->Int} {K:Int} {l:List α} {k:Nat} {x:α} (hk:k<Q9 key K l) (hx:l[k]?=some x):key x<K :=
 Zgb key K l x (Ui (i:=k) (by rw[Uw,Uf hk];exact hx))
theorem Zr5 {α:Type} {key:α->Int} {K:Int} {l:List α} {x:α} (hl:Zdc key l) (hx:l[Q9 key K l]?=some x):K<=key x :=
 Zfe hl x (Ui (i:=0) (by rw[Kh,Nat.add_zero];exact hx))
theorem ZjO {l:List Zm} {a b:Zm} (hi:Zdc Ku l) (hl:l.length<=1000000):ZaS l a b=some (Zof Ku l (a,b)):=by
 have hp:=ZhW Ku (Ku a) l;have low:∀ (k:Nat) (x:Zm),k<Q9 Ku (Ku a) l->l[k]?=some x->Ku x<Ku a:=λk x=>ZsV;have high:∀ x:Zm,l[Q9 Ku (Ku a) l]?=some x->Ku a<=Ku x:=λx=>Zr5 hi;have has:=ZjC (k:=Ku a) hi;have hput:Zof Ku l (a,b)=if Zdi Ku (Ku a) l=true then l else l.take (Q9 Ku (Ku a) l)++a::b::l.drop (Q9 Ku (Ku a) l):=rfl;generalize Q9 Ku (Ku a) l=p at hp low high has hput;unfold ZaS;refine YV p (λk v=>v=((k:Int),())) _ rfl ?_ ?_
 ·rintro k _ hk rfl
  have hx:l[k]?=some (l[k]'(by omega)):=Ub _;have h1:=low k _ hk hx;generalize l[k]'(by omega)=x at hx h1;simp only[J8,show (k:Int)<(l.length:Int) from by omega,Um,Zy,hx,Bq];rw[Uf h1,Vn (by omega)];exact .inl ⟨_,rfl,rfl⟩
 ·rintro _ rfl
  have hd:List.take (l.length-p) (List.drop p l)=List.drop p l:=List.take_of_length_le (by rw[UD];omega);by_cases c:p<l.length
  ·have hx:l[p]?=some (l[p]'c):=Ub _
   generalize l[p]'c=x at hx;have h1:=high x hx;simp only[J8,show (p:Int)<(l.length:Int) from by omega,Um,Zy,hx,Bq];rw[Ug (by omega)];by_cases e:Ku x=Ku a
   ·rw[Uf e,hput,Uf (Zc8.2 (has.2 ⟨x,hx,e⟩))]
   ·rw[Ug e,hput,Ug (λq=>by
     obtain ⟨y,hy,e2⟩:=has.1 (Zc8.1 q);rw[hx] at hy;injection hy with hy
     subst hy;exact e e2)]
    simp only[Int.toNat_natCast,show Int.toNat (0:Int)=0 from rfl,Nat.sub_zero,Ke,Uv,hd];rw[Zt (by omega),Zt (by omega),Zt (Int.le_refl _),Zt (by simp only[Ud,Uc,UD];omega),Zt (by simp only[Uc,Un];omega),Zt (by simp only[Ud,Uc,UD,Un,Ue];omega)];rfl
  ·simp only[J8,show ¬(p:Int)<(l.length:Int) from by omega,Uk]
   rw[hput,Ug (λq=>by
     obtain ⟨y,hy,e2⟩:=has.1 (Zc8.1 q);have:=(Ua.1 hy).1;omega)]
   simp only[Int.toNat_natCast,show Int.toNat (0:Int)=0 from rfl,Nat.sub_zero,Ke,Uv,hd];rw[Zt (by omega),Zt (by omega),Zt (Int.le_refl _),Zt (by simp only[Ud,Uc,UD];omega),Zt (by simp only[Uc,Un];omega),Zt (by simp only[Ud,Uc,UD,Un,Ue];omega)];rfl
def cpr (l:List Zd) (k:Nat) (c:Zd):Zm×Zm :=
  ((2*KH c,(Wq ((Zck l (k:Int)).rise+Gi c),Wq ((Zck l (k:Int)).rise+Gq c),()),((0:Int),(0:Int),()),()),
   (2*KH c+1,(Wq ((Zck l (k:Int)).fall+Gi c),Wq ((Zck l (k:Int)).fall+Gq c),()),((0:Int),(0:Int),()),()))
def ipr (l:List Zd) (k:Nat) (x:Zb):Zm×Zm :=
  ((2*Kv x,(Wq ((Zck l (KL x)).rise+KA (Kz x)),Wq ((Zck l (KL x)).rise+KF (Kz x)),()),x.2.2.2),
   (2*Kv x+1,(Wq ((Zck l (KL x)).rise+KA (Kz x)),Wq ((Zck l (KL x)).rise+KF (Kz x)),()),x.2.2.2))
theorem ZsL (l:List Zd) (k:Nat) (c:Zd):Zm5 Ku (cpr l k c):=⟨KH c,rfl,rfl⟩
theorem ZsS (l:List Zd) (k:Nat) (x:Zb):Zm5 Ku (ipr l k x):=⟨Kv x,rfl,rfl⟩
theorem Zhv {s:Zh} {pl:List Pl} (h:ZeI pl s) {k:Nat} {c:Zd} (hc:(Kt s)[k]?=some c):Zlg (Kt s) (k:Int)/\0<=KH c/\KH c<(pl.length:Int):=by
 have hk:=(Ua.1 hc).1;exact ⟨Zlh h.1 (by omega) (by omega),ZcT.place h.1 (Ui hc),h.2.1 c (Ui hc)⟩
theorem Zkv {s:Zh} {pl:List Pl} (h:ZeI pl s) {k:Nat} {x:Zb} (hx:(K1 s)[k]?=some x):Zlg (Kt s) (KL x)/\0<=Kv x/\Kv x<(pl.length:Int):=by
 have e:=h.2.2.1 k x hx;exact ⟨Zlh h.1 e.2.2.2.1.1 (by have:=e.2.2.2.1.2;omega),e.1.1,by have:=e.1.2;omega⟩
theorem ZhQ {pl:List Pl} {nc:Int} {drv:Bool} {l:List Zb} (h:ZdY pl nc drv l):l.length<=pl.length:=by
 have:∀ (k:Nat) (x:Zb),l[k]?=some x->(k:Int)<=Kv x:=by
  intro k;induction k with
  | zero=>intro x hx;have:=(h 0 x hx).1.1;omega
  | succ k ih =>
   intro x hx;have hlt:=(Ua.1 hx).1;have hy:l[k]?=some l[k]:=Ub (by omega);have h1:=ih _ hy;have h2:=(h (k+1) x hx).2.2.1 l[k] (by omega) (by rw[Nat.add_sub_cancel];exact hy);omega
 rcases U7 l.length with h0 | h0
 ·omega
 ·have hy:l[l.length-1]?=some l[l.length-1]:=Ub (by omega)
  have h1:=this _ _ hy;have h2:=(h _ _ hy).1.2;omega
theorem Zi2 {s:Zh} {pl:List Pl} (h:ZeI pl s) (hpl:pl.length<=100) {k:Nat} {c:Zd} (hc:(Kt s)[k]?=some c):JY (Kt s) (k:Int)=some [(cpr (Kt s) k c).1,(cpr (Kt s) k c).2]:=by
 obtain ⟨h1,h2,h3⟩:=Zhv h hc;unfold JY;rw[Zy,hc,Bq,Zcg h1,Bq];refine (Zhr (v':=([(cpr (Kt s) k c).1],(1:Int),())) ?_).trans ((Zhr (v':=([(cpr (Kt s) k c).1,(cpr (Kt s) k c).2],(2:Int),())) ?_).trans (Zd9 ?_))
 ·show YF c (wvI (Zck (Kt s) (k:Int))) [] 0=_
  unfold YF;rw[Uf (by decide)];show (some (Zck (Kt s) (k:Int)).rise).bind _=_;rw[Bq,Zt (by simp only[Ud,Uc];omega),Xa (n:=2*KH c) (by omega) (by omega),Int.add_zero,Xa (n:=2*KH c) (by omega) (by omega)];rfl
 ·show YF c (wvI (Zck (Kt s) (k:Int))) [(cpr (Kt s) k c).1] 1=_
  unfold YF;rw[Uf (by decide)];show (some (Zck (Kt s) (k:Int)).fall).bind _=_;rw[Bq,Zt (by simp only[Ud,Uc];omega),Xa (n:=2*KH c) (by omega) (by omega),Xa (n:=2*KH c+1) (by omega) (by omega)];rfl
 ·show YF c (wvI (Zck (Kt s) (k:Int))) [(cpr (Kt s) k c).1,(cpr (Kt s) k c).2] 2=_
  unfold YF;rw[Ug (by decide)]
theorem Zmc {l:List Zm} (hl:Len l) (n:Int):∃ r,VH l n=some (r,Zdi Ku n l):=by
 unfold VH;rw[Xe hl (λx=>decide (Ku x=n)) (λx _=>rfl),Bq];have h1:=Zpm (p:=λx=>decide (Ku x=n)) (l:=l);have h2:=QS (p:=λx=>decide (Ku x=n)) (l:=l);by_cases c:0<=Za9 (λx=>decide (Ku x=n)) l
 ·obtain ⟨x,hx,_⟩:=Zic c h1
  rw[Uf c,hx,Bq];exact ⟨x,by rw[show Zdi Ku n l=true from h2.1 c]⟩
 ·rw[Ug c]
  refine ⟨((0:Int),((0:Int),(0:Int),()),((0:Int),(0:Int),()),()),?_⟩;rw[show Zdi Ku n l=false from by
   cases q:Zdi Ku n l with
   | false=>rfl
   | true=>exact absurd (h2.2 q) c]
noncomputable def Zlq (s:Zh):List Zm:=foldI (λk x a=>ZlG Ku a (cpr (Kt s) k x)) 0 (Kt s) []
noncomputable def Zs6 (s:Zh):List Zm:=foldI (λk x a=>ZlG Ku a (ipr (Kt s) k x)) 0 (K1 s) (Zlq s)
noncomputable def Zop (s:Zh):List Zm:=foldI (λk x a=>Zof Ku a (cpr (Kt s) k x)) 0 (Kt s) []
noncomputable def Zqa (s:Zh):List Zm:=foldI (λk x a=>Zof Ku a (ipr (Kt s) k x)) 0 (K1 s) (Zop s)
theorem Zs0 (s:Zh) (n:Nat):ZeQ Ku (foldI (λk x a=>ZlG Ku a (cpr (Kt s) k x)) 0 ((Kt s).take n) []) (foldI (λk x a=>Zof Ku a (cpr (Kt s) k x)) 0 ((Kt s).take n) []) :=
 Zh2 (g:=λk x=>cpr (Kt s) k x) _ 0 (ZeQ.nil _) (λk x _=>ZsL _ _ _)
theorem Zs1 (s:Zh):ZeQ Ku (Zlq s) (Zop s):=by
 have:=Zs0 s (Kt s).length;rw[Ut] at this;exact this
theorem Zs2 (s:Zh) (n:Nat):ZeQ Ku (foldI (λk x a=>ZlG Ku a (ipr (Kt s) k x)) 0 ((K1 s).take n) (Zlq s)) (foldI (λk x a=>Zof Ku a (ipr (Kt s) k x)) 0 ((K1 s).take n) (Zop s)) :=
 Zh2 (g:=λk x=>ipr (Kt s) k x) _ 0 (Zs1 s) (λk x _=>ZsS _ _ _)
theorem Zp3 (s:Zh):ZeQ Ku (Zs6 s) (Zqa s):=by
 have:=Zs2 s (K1 s).length;rw[Ut] at this;exact this
theorem len1 {s:Zh} {pl:List Pl} (h:ZeI pl s) (n:Nat):(foldI (λk x a=>ZlG Ku a (cpr (Kt s) k x)) 0 ((Kt s).take n) []).length<=12:=by
 have:=Zec (key:=Ku) (g:=λk x=>cpr (Kt s) k x) ((Kt s).take n) 0 [];rw[Un,Uc] at this;have:=h.1.1;omega
theorem ZuM {s:Zh} {pl:List Pl} (h:ZeI pl s):(Zlq s).length<=12:=by
 have:=len1 h (Kt s).length;rw[Ut] at this;exact this
theorem len2 {s:Zh} {pl:List Pl} (h:ZeI pl s) (hpl:pl.length<=100) (n:Nat):(foldI (λk x a=>ZlG Ku a (ipr (Kt s) k x)) 0 ((K1 s).take n) (Zlq s)).length<=212:=by
 have:=Zec (key:=Ku) (g:=λk x=>ipr (Kt s) k x) ((K1 s).take n) 0 (Zlq s);rw[Un] at this;have:=ZhQ h.2.2.1;have:=ZuM h;omega
theorem ZlH {A:List Zm} {q:Zm×Zm} {r:Bool} {v:Int} (hr:r=Zdi Ku (Ku q.1) A) (hl:A.length<=1000000):(if r=true then some (Sum.inl (Wq (v+1),A,())) else Zp ((A.length+[q.1,q.2].length)*40<=140737488355328) (some (.inl (Wq (v+1),A++[q.1,q.2],()))):Option ((Int×List Zm×Unit) ⊕ List Zm))=some (.inl (Wq (v+1),ZlG Ku A q,())):=by
 subst hr;unfold ZlG;by_cases c:Zdi Ku (Ku q.1) A=true
 ·rw[Uf c,Uf c]
 ·rw[Ug c,Ug c,Zt (by simp only[Ud,Uc];omega)]
theorem ZhP {s:Zh} {pl:List Pl} (h:ZeI pl s) (hpl:pl.length<=100):Zcf s=some (Zqa s):=by
 have hfew:=ZhQ h.2.2.1;have h6:=h.1.1;unfold Zcf;refine Zft (l:=Kt s) (by unfold Len;omega) (λa i=>(i,a,())) (f:=λk x a=>ZlG Ku a (cpr (Kt s) k x)) (s0:=[]) (λ_ _=>True) trivial (λk c A hc _ hA=>⟨?_,trivial⟩) (λA _ hA=>?_)
 ·have hk:=(Ua.1 hc).1
  have hl:A.length<=12:=by rw[hA];exact len1 h k
  obtain ⟨r,hr⟩:=Zmc (l:=A) (by unfold Len;omega) (Ku (cpr (Kt s) k c).1);show X5 s (k:Int) A=_;unfold X5;rw[Uf (by omega),Zi2 h hpl hc,Bq];show (VH A (Ku (cpr (Kt s) k c).1)).bind _=_;rw[hr,Bq];exact ZlH (q:=cpr (Kt s) k c) rfl (by omega)
 ·have eA:A=Zlq s:=hA
  subst eA;show X5 s ((Kt s).length:Int) (Zlq s)=_;unfold X5;rw[Ug (Uh _)];refine Zft (l:=K1 s) (by unfold Len;omega) (λa i=>(i,a,())) (f:=λk x a=>ZlG Ku a (ipr (Kt s) k x)) (s0:=Zlq s) (λ_ _=>True) trivial (λk x A hx _ hA=>⟨?_,trivial⟩) (λA _ hA=>?_)
  ·have hk:=(Ua.1 hx).1
   have hl:A.length<=212:=by rw[hA];exact len2 h hpl k
   obtain ⟨w1,w2,w3⟩:=Zkv h hx;obtain ⟨r,hr⟩:=Zmc (l:=A) (by unfold Len;omega) (Ku (ipr (Kt s) k x).1);show X4 s (k:Int) A=_;unfold X4;rw[Uf (by omega),Zy,hx,Bq,Zcg w1,Bq];show (some (Zck (Kt s) (KL x)).rise).bind _=_;rw[Bq,Xa (n:=2*Kv x) (by omega) (by omega),Xa (n:=2*Kv x+1) (by omega) (by omega),Int.add_comm (KA (Kz x)),Int.add_comm (KF (Kz x))];show (some (ipr (Kt s) k x).1).bind _=_;rw[Bq];show (VH A (Ku (ipr (Kt s) k x).1)).bind _=_;rw[hr,Bq];have:=ZlH (A:=A) (q:=ipr (Kt s) k x) (v:=(k:Int)) rfl (by omega);by_cases c:Zdi Ku (Ku (ipr (Kt s) k x).1) A=true
   ·rw[Uf c] at this ⊢
    injection this with this
    injection this with this
    exact congrArg (λz=>some (Sum.inl z)) this
   ·rw[Ug c] at this ⊢
    rw[Zt (by simp only[Ud,Uc];omega)] at this;rw[Zt (by simp only[Ud,Uc];omega)];injection this with this
    injection this with this
    exact congrArg (λz=>some (Sum.inl z)) this
  ·have eA:A=Zs6 s:=hA
   subst eA;show X4 s ((K1 s).length:Int) (Zs6 s)=_;unfold X4;rw[Ug (Uh _)];have hl:=len2 h hpl (K1 s).length;rw[Ut] at hl;have hS:=Zp3 s;rw[(Zkx (key:=λx=>Ku x)).2 ⟨hS.perm,hS.inc,by have:(Zs6 s).length<=212:=hl;omega⟩];rfl
theorem ZjP {s:Zh} {pl:List Pl} (h:ZeI pl s) (hpl:pl.length<=100):ZbM s=some (Zqa s):=by
 have hfew:=ZhQ h.2.2.1;have h6:=h.1.1;unfold ZbM;refine Zft (l:=Kt s) (by unfold Len;omega) (λa i=>(a,i,())) (f:=λk x a=>Zof Ku a (cpr (Kt s) k x)) (s0:=[]) (λ_ _=>True) trivial (λk c B hc _ hB=>⟨?_,trivial⟩) (λB _ hB=>?_)
 ·have hk:=(Ua.1 hc).1
  have hS:=Zs0 s k;rw[<-hB] at hS;have hl:=hS.len;have hl2:=len1 h k;obtain ⟨w1,w2,w3⟩:=Zhv h hc;show XM s B (k:Int)=_;unfold XM;rw[Uf (by omega),Zy,hc,Bq,Zey w1,Bq,Xa (n:=2*KH c) (by omega) (by omega),Xa (n:=2*KH c+1) (by omega) (by omega)];show (ZaS B (cpr (Kt s) k c).1 (cpr (Kt s) k c).2).bind _=_;rw[ZjO hS.inc (by omega)];rfl
 ·have eB:B=Zop s:=hB
  subst eB;show XM s (Zop s) ((Kt s).length:Int)=_;unfold XM;rw[Ug (Uh _)];refine Zft (l:=K1 s) (by unfold Len;omega) (λa i=>(a,i,())) (f:=λk x a=>Zof Ku a (ipr (Kt s) k x)) (s0:=Zop s) (λ_ _=>True) trivial (λk x B hx _ hB=>⟨?_,trivial⟩) (λB _ hB=>?_)
  ·have hk:=(Ua.1 hx).1
   have hS:=Zs2 s k;rw[<-hB] at hS;have hl:=hS.len;have hl2:=len2 h hpl k;obtain ⟨w1,w2,w3⟩:=Zkv h hx;show XL s B (k:Int)=_;unfold XL;rw[Uf (by omega),Zy,hx,Bq,Zey w1,Bq,Xa (n:=2*Kv x) (by omega) (by omega),Xa (n:=2*Kv x+1) (by omega) (by omega)];show (ZaS B (ipr (Kt s) k x).1 (ipr (Kt s) k x).2).bind _=_;rw[ZjO hS.inc (by omega)];rfl
  ·have eB:B=Zqa s:=hB
   subst eB;show XL s (Zqa s) ((K1 s).length:Int)=_;unfold XL;rw[Ug (Uh _)]
def Zsz (w:Wv) (x:Zb) (c:Zd):ZC:=(Wq (Wq (w.rise-KA (Kz x))+Gg c),Wq (Wq (Wq (w.rise+w.period)-KF (Kz x))-Gg c),())
def ZjT (l:List Zd) (k:Nat) (x:Zb):List Yz:=match l[(KL x).toNat]? with
 | some c=>[(Wq (2*Kv x),Zsz (Zck l (KL x)) x c,()),(Wq (Wq (2*Kv x)+1),Zsz (Zck l (KL x)) x c,())]
 | none=>[]
def targets (s:Zh):List Yz:=cat (ZjT (Kt s)) 0 (K8 s)
theorem Znl {pl:List Pl} {nc:Int} {drv:Bool} {l:List Zb} (h:ZdY pl nc drv l):l.length<=pl.length:=by
 have:∀ (k:Nat) (x:Zb),l[k]?=some x->(k:Int)<=Kv x:=by
  intro k;induction k with
  | zero=>intro x hx;have:=(h 0 x hx).1.1;omega
  | succ k ih =>
   intro x hx;have hlt:=(Ua.1 hx).1;have hy:l[k]?=some l[k]:=Ub (by omega);have h1:=ih _ hy;have h2:=(h (k+1) x hx).2.2.1 l[k] (by omega) (by rw[Nat.add_sub_cancel];exact hy);omega
 rcases U7 l.length with h0 | h0
 ·omega
 ·have hy:l[l.length-1]?=some l[l.length-1]:=Ub (by omega)
  have h1:=this _ _ hy;have h2:=(h _ _ hy).1.2;omega
theorem Zqh (l:List Zd) (k:Nat) (x:Zb):(ZjT l k x).length<=2:=by
 unfold ZjT;split<;>simp
theorem ZjS {s:Zh} {pl:List Pl} (h:ZeI pl s) {k:Nat} {x:Zb} (hx:(K8 s)[k]?=some x):∃ c,(Kt s)[(KL x).toNat]?=some c/\atI (Kt s) (KL x)=some c/\Zlg (Kt s) (KL x):=by
 have hc:=(h.2.2.2.1 k x hx).2.2.2.1;have hlt:(KL x).toNat<(Kt s).length:=by omega
 have hg:=Ub hlt;exact ⟨_,hg,Za5 hc.1 hg,Zlh h.1 hc.1 (by omega)⟩
theorem Zm0 {s:Zh} (n:Nat):(cat (ZjT (Kt s)) 0 ((K8 s).take n)).length<=2*(K8 s).length:=by
 have:=ZeY (f:=ZjT (Kt s)) (c:=2) (l:=(K8 s).take n) (m:=0) (λk x _=>Zqh _ _ _);rw[Un] at this;have h2:2*min n (K8 s).length<=2*(K8 s).length:=Nat.mul_le_mul_left _ (by omega);omega
theorem Zjn {s:Zh} {pl:List Pl} (h:ZeI pl s) (hpl:pl.length<=100):ZdC s=some (targets s):=by
 have hfew:=Znl h.2.2.2.1;unfold ZdC;have:=JJ (l:=K8 s) (ρ:=List Yz) (ZjT (Kt s)) [] (step:=λv=>Jc s v.1 v.2.1) (good:=targets s)
  (λk x hx hk=>by
   have hl:=Zm0 (s:=s) k;obtain ⟨c,h1,h2,h3⟩:=ZjS h hx;simp only[Jc,show (k:Int)<((K8 s).length:Int) from by omega,Um,Zy,hx,Bq,Zcg h3,h2];rw[Zt (by rw[Uv];simp only[Ud,Uc];omega),Vn (by omega)];have ht:ZjT (Kt s) k x=[(Wq (2*Kv x),Zsz (Zck (Kt s) (KL x)) x c,()),(Wq (Wq (2*Kv x)+1),Zsz (Zck (Kt s) (KL x)) x c,())]:=by unfold ZjT;rw[h1]
   rw[ht];rfl)
  (by simp only[Jc,Uh,Uk];rfl)
 exact this
def ZiO (n:Int) (l:List Zm) (k:Nat) (x:Zm):Prop :=
 (0<=Ku x/\Ku x<=n-1)/\(∀ y,0<k->l[k-1]?=some y->Ku y<Ku x)/\ZeR (GM x)/\Zcl (GN x)
theorem Zg4 {b:Zi} (h:ZlA b) (v:Yr) (hv:KG v=places (Kq b)) (l:List Zm) (hl:l.length<=1048576):Vj v l=some (tr (ZcN l (ZiO (2*((places (Kq b)).length:Int)) l))):=by
 have hf:=h.ok.1.few;have hpl:=XQ hf;have hnode:∀ n,XV v n=some (tr (0<=n/\n<=2*((places (Kq b)).length:Int)-1)):=by
  intro n;unfold XV Zbh;rw[show YB (KG v)=some ((KG v).length:Int) from rfl,Bq,Bq,hv,Xa (n:=2*((places (Kq b)).length:Int)) (by omega) (by omega),Xa (by omega) (by omega)];exact Zax (YQ _ _ _)
 unfold Vj;rw[XJ (l:=l) (show Len l by unfold Len;omega) (ZiO (2*((places (Kq b)).length:Int)) l) (bad:=false) (good:=true)
  (step:=λu=>Xv v l u.1)
  (λk x hx hk _=>by
   simp only[Xv,show (k:Int)<(l.length:Int) from by omega,Um,Zy,hx,Bq,hnode,VZ,ZcF];unfold ZiO;by_cases q1:0<=Ku x/\Ku x<=2*((places (Kq b)).length:Int)-1
   ·rw[Uf (Yc q1)]
    by_cases q3:ZeR (GM x)
    ·rw[Uf (Yc q3)]
     by_cases q4:Zcl (GN x)
     ·rw[Uf (Yc q4)]
      by_cases hk0:k=0
      ·subst hk0
       rw[Ug (show ¬(0:Int)<((0:Nat):Int) by omega)];exact ⟨λ_=>rfl,λq=>absurd ⟨q1,λy h=>by omega,q3,q4⟩ q⟩
      ·have hy:l[k-1]?=some l[k-1]:=Ub (by omega)
       have hy2:atI l ((k:Int)-1)=some l[k-1]:=Za5 (by omega) (by rw[<-hy];congr 1;omega);generalize l[k-1]=y at hy hy2;rw[Uf (by omega),Xa (n:=(k:Int)-1) (by omega) (by omega),hy2,Bq];by_cases q2:Ku x<=Ku y
       ·rw[Uf q2]
        exact ⟨λq=>by have:=q.2.1 y (by omega) hy;omega,λ_=>rfl⟩
       ·rw[Ug q2]
        refine ⟨λ_=>rfl,λq=>absurd ⟨q1,λz _ hz=>?_,q3,q4⟩ q⟩;rw[hy] at hz;injection hz with hz;subst hz;omega
     ·rw[Ug (λq=>q4 ((XD _).1 q))]
      exact ⟨λq=>absurd q.2.2.2 q4,λ_=>rfl⟩
    ·rw[Ug (λq=>q3 ((XD _).1 q))]
     exact ⟨λq=>absurd q.2.2.1 q3,λ_=>rfl⟩
   ·rw[Ug (λq=>q1 ((XD _).1 q))]
    exact ⟨λq=>absurd q.1 q1,λ_=>rfl⟩)
  (λ_=>by simp only[Xv,Uh,Uk]),Zhg]
theorem Zfg {α β:Type} {key:α->Int} {g:Nat->β->α×α}:∀ (l:List β) (m:Nat) (B:List α) (x:α),x∈foldI (λk y a=>Zof key a (g k y)) m l B->x∈B\/∃ k y,l[k]?=some y/\(x=(g (m+k) y).1\/x=(g (m+k) y).2)
 | [],_,_,_,h=>.inl h
 | y::l,m,B,x,h=>by
  simp only[foldI] at h;rcases Zfg l (m+1) _ x h with h | ⟨k,z,hz,h⟩
  ·unfold Zof at h
   split at h
   ·exact .inl h
   ·rcases ZaV.1 h with h | h | h
    ·exact .inr ⟨0,y,rfl,.inl h⟩
    ·exact .inr ⟨0,y,rfl,.inr h⟩
    ·exact .inl h
  ·rw[show m+1+k=m+(k+1) by omega] at h
   exact .inr ⟨k+1,z,by rw[UL];exact hz,h⟩
theorem Zi3 {l:List Zd} (h:ZcT l) {c:Zd} (hc:c∈l):0<=Gi c/\Gi c<=Gq c/\Gq c<=100000/\0<=Gg c/\Gg c<=100000:=by
 obtain ⟨k,hk⟩:=Uu.1 hc;have h1:=h.2.1 k c (by have:=(Ua.1 hk).1;omega) hk;unfold Zdf Zff at h1;simp only[Ul,Uq,within_iff] at h1;omega
theorem Zsp {r a b:Int} (h0:0<=r) (h1:r<=100000) (h2:-100000<=a) (h3:a<=b) (h4:b<=100000):ZeR (Wq (r+a),Wq (r+b),()):=by
 rw[Xa (n:=r+a) (by omega) (by omega),Xa (n:=r+b) (by omega) (by omega)];show (-1000000000<=r+a/\r+a<=1000000000)/\(-1000000000<=r+b/\r+b<=1000000000)/\r+a<=r+b;omega
theorem src_ok {s:Zh} {pl:List Pl} (h:ZeI pl s) {x:Zm} (hx:x∈Zqa s):(0<=Ku x/\Ku x<=2*(pl.length:Int)-1)/\ZeR (GM x)/\Zcl (GN x):=by
 rcases Zfg _ _ _ _ hx with hx | ⟨k,e,he,hx⟩
 ·rcases Zfg _ _ _ _ hx with hx | ⟨k,c,hc,hx⟩
  ·cases hx
  ·have hk:=(Ua.1 hc).1
   obtain ⟨_,w2,w3⟩:=Zhv h hc;have w:=ZuX h.1 (k:=(k:Int)) (by omega) (by omega);have w4:=w.p2;have w5:=w.r1;have w6:=w.r2;have w7:=w.f1;have w8:=w.f2;obtain ⟨p1,p2,p3,_⟩:=Zi3 h.1 (Ui hc);have hz:Zcl (((0:Int),(0:Int),()):ZC):=by
    show (0:Int)<=0/\(0:Int)<=0/\(0:Int)<=1000000;omega
   rw[UB] at hx;rcases hx with rfl | rfl
   ·refine ⟨?_,Zsp w5 (by omega) (by omega) p2 p3,hz⟩
    show 0<=2*KH c/\2*KH c<=_;omega
   ·refine ⟨?_,Zsp w7 (by omega) (by omega) p2 p3,hz⟩
    show 0<=2*KH c+1/\2*KH c+1<=_;omega
 ·obtain ⟨e1,_,_,e4,e5,e6,_⟩:=h.2.2.1 k e he
  have w:=ZuX h.1 (k:=KL e) e4.1 (by omega);have w4:=w.p2;have w5:=w.r1;have w6:=w.r2;have hs:=Zsp w5 (show (Zck (Kt s) (KL e)).rise<=100000 by omega) e5.2.1 e5.1 e5.2.2;rcases hx with rfl | rfl
  ·refine ⟨?_,hs,e6⟩
   show 0<=2*Kv e/\2*Kv e<=_;omega
  ·refine ⟨?_,hs,e6⟩
   show 0<=2*Kv e+1/\2*Kv e+1<=_;omega
theorem Zpv {α:Type} {key:α->Int} {l:List α} (h:Zdc key l) {k:Nat} {x y:α} (hx:l[k]?=some x) (hk:0<k) (hy:l[k-1]?=some y):key y<key x:=by
 obtain ⟨h1,rfl⟩:=Ua.1 hx;obtain ⟨h2,rfl⟩:=Ua.1 hy;exact (List.pairwise_iff_getElem.1 h) _ _ h2 h1 (by omega)
theorem Zsq {s:Zh} {pl:List Pl} (h:ZeI pl s):ZcN (Zqa s) (ZiO (2*(pl.length:Int)) (Zqa s)):=λk x hx=>by
 obtain ⟨h1,h2,h3⟩:=src_ok h (Ui hx);exact ⟨h1,λy hk hy=>Zpv (Zp3 s).inc hx hk hy,h2,h3⟩
theorem ZoF {α:Type} {key:α->Int}:∀ {l:List α},(∀ (k:Nat) (x:α),l[k]?=some x->∀ y,0<k->l[k-1]?=some y->key y<key x)->Zdc key l
 | [],_=>List.Pairwise.nil
 | [a],_=>List.pairwise_singleton ..
 | a::c::r,h=>by
  have ih:Zdc key (c::r):=ZoF λk x hx y hk hy=>h (k+1) x (by rw[UL];exact hx) y (by omega) (by
   rw[show k+1-1=(k-1)+1 by omega,UL];exact hy)
  have hac:=h 1 c rfl a (by omega) rfl;refine UY.2 ⟨λb hb=>?_,ih⟩;rcases Uo.1 hb with rfl | hb
  ·exact hac
  ·have:=(UY.1 ih).1 b hb
   omega
theorem ZoQ {α β:Type} {key:α->Int} {p:β->Int} {f:Nat->β->List α}:∀ {l:List β} {m:Nat},(∀ (k:Nat) (x:β),l[k]?=some x->∃ a b,f (m+k) x=[a,b]/\key a=2*p x/\key b=2*p x+1)->Zdc p l->Zdc key (cat f m l)/\(cat f m l).length=2*l.length
 | [],_,_,_=>⟨List.Pairwise.nil,rfl⟩
 | x::l,m,h,hp=>by
  have hp:=UY.1 hp;have h':∀ (k:Nat) (y:β),l[k]?=some y->∃ a b,f (m+1+k) y=[a,b]/\key a=2*p y/\key b=2*p y+1:=λk y hy=>by
   rw[show m+1+k=m+(k+1) by omega];exact h (k+1) y (by rw[UL];exact hy)
  obtain ⟨i1,i2⟩:=ZoQ h' hp.2;obtain ⟨a,b,e,ka,kb⟩:=h 0 x rfl;have e:f m x=[a,b]:=e;have far:∀ z∈cat f (m+1) l,2*p x+2<=key z:=λz hz=>by
   obtain ⟨i,y,hy,hzy⟩:=ZdV.1 hz;obtain ⟨a',b',e',k1,k2⟩:=h' i y hy;have:=hp.1 y (Ui hy);rw[e'] at hzy;simp only[Uo,UI,U0] at hzy;rcases hzy with rfl | rfl<;>omega
  show Zdc key (f m x++cat f (m+1) l)/\(f m x++cat f (m+1) l).length=_;rw[e];refine ⟨UY.2 ⟨λz hz=>?_,UY.2 ⟨λz hz=>?_,i1⟩⟩,?_⟩
  ·rcases Uo.1 hz with rfl | hz
   ·omega
   ·have:=far z hz;omega
  ·have:=far z hz;omega
  ·simp only[Ue,Ud,Uc]
   omega
def Zm6 (n:Int) (l:List Yz) (k:Nat) (x:Yz):Prop :=
 (0<=Gw x/\Gw x<=n-1)/\(∀ y,0<k->l[k-1]?=some y->Gw y<Gw x)/\(-1000000000<=KA (Ga x)/\KA (Ga x)<=1000000000)/\(-1000000000<=KF (Ga x)/\KF (Ga x)<=1000000000)
theorem Zmi {s:Zh} {pl:List Pl} (h:ZeI pl s) (hpl:pl.length<=100) {k:Nat} {x:Zb} (hx:(K8 s)[k]?=some x):∃ (a b:Yz),(∀ m,ZjT (Kt s) m x=[a,b])/\Gw a=2*Kv x/\Gw b=2*Kv x+1/\Ga a=Ga b/\
  (-1000000000<=KA (Ga a)/\KA (Ga a)<=1000000000)/\(-1000000000<=KF (Ga a)/\KF (Ga a)<=1000000000):=by
 obtain ⟨c,h1,h2,h3⟩:=ZjS h hx;obtain ⟨e1,_,_,e4,e5,_,_⟩:=h.2.2.2.1 k x hx;have w:=ZuX h.1 (k:=KL x) e4.1 (by omega);have w2:=w.p1;have w4:=w.p2;have w5:=w.r1;have w6:=w.r2;obtain ⟨_,_,_,u1,u2⟩:=Zi3 h.1 (Ui h1);have d1:=e5.1;have d2:=e5.2.1;have d3:=e5.2.2;have n1:Wq (2*Kv x)=2*Kv x:=Xa (by omega) (by omega);have n2:Wq (2*Kv x+1)=2*Kv x+1:=Xa (by omega) (by omega);refine ⟨(Wq (2*Kv x),Zsz (Zck (Kt s) (KL x)) x c,()),(Wq (Wq (2*Kv x)+1),Zsz (Zck (Kt s) (KL x)) x c,()),λm=>by unfold ZjT;rw[h1],n1,?_,rfl,?_⟩
 ·show Wq (Wq (2*Kv x)+1)=_
  rw[n1,n2]
 ·generalize Zck (Kt s) (KL x)=wv at *
  show (-1000000000<=Wq (Wq (wv.rise-KA (Kz x))+Gg c)/\Wq (Wq (wv.rise-KA (Kz x))+Gg c)<=1000000000)/\
   (-1000000000<=Wq (Wq (Wq (wv.rise+wv.period)-KF (Kz x))-Gg c)/\Wq (Wq (Wq (wv.rise+wv.period)-KF (Kz x))-Gg c)<=1000000000)
  rw[Xa (n:=wv.rise-KA (Kz x)) (by omega) (by omega),Xa (n:=wv.rise+wv.period) (by omega) (by omega),Xa (n:=wv.rise+wv.period-KF (Kz x)) (by omega) (by omega),Xa (by omega) (by omega),Xa (by omega) (by omega)];omega
theorem Zor {s:Zh} {pl:List Pl} (h:ZeI pl s) (hpl:pl.length<=100):ZcN (targets s) (Zm6 (2*(pl.length:Int)) (targets s))/\(targets s).length=2*(K8 s).length:=by
 have hi:Zdc Kv (K8 s):=ZoF λk x hx=>(h.2.2.2.1 k x hx).2.2.1;have h2:=ZoQ (key:=Gw) (p:=Kv) (f:=ZjT (Kt s)) (l:=K8 s) (m:=0) (λk x hx=>by
  obtain ⟨a,b,e,k1,k2,_⟩:=Zmi h hpl hx;exact ⟨a,b,e _,k1,k2⟩) hi
 refine ⟨λk x hx=>?_,h2.2⟩;obtain ⟨i,e,he,hxe⟩:=ZdV.1 (Ui hx);obtain ⟨a,b,q,k1,k2,k3,k4,k5⟩:=Zmi h hpl he;have e1:=(h.2.2.2.1 i e he).1;rw[q] at hxe;refine ⟨?_,λy hk hy=>Zpv h2.1 hx hk hy,?_⟩;all_goals
  simp only[Uo,UI,U0] at hxe;rcases hxe with rfl | rfl
 ·omega
 ·omega
 ·exact ⟨k4,k5⟩
 ·rw[<-k3];exact ⟨k4,k5⟩
def Gets {α:Type} (o:Option α) (Q:α->Prop):Prop:=∃ a,o=some a/\Q a
theorem Gets.ret {α:Type} {a:α} {Q:α->Prop} (h:Q a):Gets (some a) Q:=⟨a,rfl,h⟩
theorem Gets.bind {α β:Type} {o:Option α} {P:α->Prop} {f:α->Option β} {Q:β->Prop} (h:Gets o P) (k:∀ a,P a->Gets (f a) Q):Gets (o.bind f) Q:=by
 obtain ⟨a,e,hp⟩:=h;rw[e];exact k a hp
theorem Gets.guard {α:Type} {p:Prop} {o:Option α} {Q:α->Prop} (h:p) (k:Gets o Q):Gets (Zp p o) Q:=by rw[Zt h];exact k
theorem Gets.at {α β:Type} {l:List α} {i:Int} {f:α->Option β} {Q:β->Prop} (h0:0<=i) (h1:i<(l.length:Int)) (k:∀ x,x∈l->l[i.toNat]?=some x->Gets (f x) Q):Gets ((atI l i).bind f) Q:=by
 obtain ⟨x,e,hx⟩:=Zic h0 h1;rw[e];exact k x (Ui hx) hx
theorem Gets.mono {α:Type} {o:Option α} {P Q:α->Prop} (h:Gets o P) (k:∀ a,P a->Q a):Gets o Q:=by
 obtain ⟨a,e,hp⟩:=h;exact ⟨a,e,k a hp⟩
theorem Gets.of {α:Type} {o:Option α} {a:α} {Q:α->Prop} (e:o=some a) (h:Q a):Gets o Q:=⟨a,e,h⟩
def Rnd {τ ρ:Type} (I:τ->Prop) (μ:τ->Nat) (m:Nat) (Q:ρ->Prop):τ ⊕ ρ->Prop
 | .inl v=>I v/\μ v<m
 | .inr r=>Q r
theorem Gets.loop {τ ρ:Type} {step:τ->Option (τ ⊕ ρ)} (I:τ->Prop) (μ:τ->Nat) {Q:ρ->Prop} {v:τ} (h0:I v) (hs:∀ v,I v->Gets (step v) (Rnd I μ (μ v) Q)):Gets (Zr step v) Q:=by
 refine ZkK I μ Q h0 (λv hI=>?_);obtain ⟨r,e,h⟩:=hs v hI;cases r with
 | inl v'=>exact .inl ⟨v',e,h⟩
 | inr r=>exact .inr ⟨r,e,h⟩
structure Src (s:Zc):Prop where
 code:∀ x∈GD s,0<=x/\x<=255
 len:(GD s).length<=5000
 at0:0<=Zc.at s
 at1:Zc.at s<=5000
 sd0:0<=K6 s
 sd1:K6 s<2147483647
def Bel (n k:Int):Prop:=0<=k/\(k<n\/k=0)
theorem Zq {s:Zc} (hs:Src s) (n:Int):Gets (Zf s n) (λr=>Bel n r.1/\Src r.2):=by
 obtain ⟨hc,hl,a0,a1,s0,s1⟩:=hs;unfold Zf;split
 ·exact .ret ⟨⟨Int.le_refl _,.inr rfl⟩,⟨hc,hl,a0,a1,s0,s1⟩⟩
 rename_i hn;split
 ·rename_i hat
  refine .at a0 hat λx hx _=>?_;obtain ⟨b0,b1⟩:=hc x hx;have e1:Wq (Zc.at s+1)=Zc.at s+1:=Xa (by omega) (by omega);have e2:Wq x=x:=Xa (by omega) (by omega);have e3:Wq (K6 s*48271)=K6 s*48271:=Xa (by omega) (by omega);have e4:Wq (K6 s*48271+x)=K6 s*48271+x:=Xa (by omega) (by omega);have e5:Wq (K6 s*48271+x+1)=K6 s*48271+x+1:=Xa (by omega) (by omega);simp only[e2,e3,e4,e5,e1];split
  ·refine .guard (by omega) (.ret ⟨⟨Int.tmod_nonneg _ b0,.inl (Kk _ (by omega))⟩,⟨hc,hl,?_,?_,s0,s1⟩⟩)
   ·show 0<=Zc.at s+1;omega
   ·show Zc.at s+1<=5000;omega
  ·have m0:=Int.tmod_nonneg (a:=K6 s*48271+x+1) 2147483647 (by omega)
   have m1:=Kk (K6 s*48271+x+1) (show (0:Int)<2147483647 by omega);refine .guard (by omega) (.ret ⟨⟨Int.tmod_nonneg _ m0,.inl (Kk _ (by omega))⟩,⟨hc,hl,?_,?_,m0,m1⟩⟩)
   ·show 0<=Zc.at s+1;omega
   ·show Zc.at s+1<=5000;omega
 ·have e3:Wq (K6 s*48271)=K6 s*48271:=Xa (by omega) (by omega)
  have e4:Wq (K6 s*48271+11)=K6 s*48271+11:=Xa (by omega) (by omega);simp only[e3,e4];have m0:=Int.tmod_nonneg (a:=K6 s*48271+11) 2147483647 (by omega);have m1:=Kk (K6 s*48271+11) (show (0:Int)<2147483647 by omega);generalize (K6 s*48271+11).tmod 2147483647=q at m0 m1;have d0:q.tdiv 7=q / 7:=Int.tdiv_eq_ediv_of_nonneg m0;rw[d0,Xa (n:=q / 7) (by omega) (by omega)];exact .guard (by omega) (.ret ⟨⟨Int.tmod_nonneg _ (by omega),.inl (Kk _ (by omega))⟩,⟨hc,hl,a0,a1,m0,m1⟩⟩)
theorem Zn2 {code:List Int} (hc:∀ x∈code,0<=x/\x<=255) (hl:code.length<=5000):Gets (Zcx code) Src:=by
 unfold Zcx;refine Gets.loop (λv=>0<=v.1/\v.1<=64/\0<=v.2.1/\v.2.1<2147483647) (λv=>(64-v.1).toNat) ⟨Int.le_refl _,by show (0:Int)<=64;omega,by show (0:Int)<=12345;omega,by show (12345:Int)<2147483647;omega⟩ ?_;rintro ⟨i,c,⟨⟩⟩ ⟨i0,i1,c0,c1⟩;simp only at i0 i1 c0 c1;have fin:Gets (some (.inr (code,(0:Int),c,()):(Int×Int×Unit) ⊕ Zc)) (Rnd (λv:Int×Int×Unit=>0<=v.1/\v.1<=64/\0<=v.2.1/\v.2.1<2147483647) (λv=>(64-v.1).toNat) ((λv:Int×Int×Unit=>(64-v.1).toNat) (i,c,())) Src) :=
  .ret (show Src (code,(0:Int),c,()) from ⟨hc,hl,Int.le_refl _,by show (0:Int)<=5000;omega,c0,c1⟩)
 show Gets (Zbu code i c) _;unfold Zbu;split
 ·rename_i hi
  split
  ·rename_i h64
   refine .at i0 hi λx hx _=>?_;obtain ⟨b0,b1⟩:=hc x hx;have e1:Wq (i+1)=i+1:=Xa (by omega) (by omega);have e2:Wq x=x:=Xa (by omega) (by omega);have e3:Wq (c*31)=c*31:=Xa (by omega) (by omega);have e4:Wq (c*31+x)=c*31+x:=Xa (by omega) (by omega);simp only[e1,e2,e3,e4];refine .ret ⟨⟨?_,?_,Int.tmod_nonneg _ (by omega),Kk _ (by omega)⟩,?_⟩
   ·show 0<=i+1;omega
   ·show i+1<=64;omega
   ·show (64-(i+1)).toNat<(64-i).toNat;omega
  ·exact fin
 ·exact fin
theorem Zpp {code:List Int} (hc:∀ x∈code,0<=x/\x<=255) (hl:code.length<=4096):Gets (Zcx code) Src:=Zn2 hc (by omega)
theorem ZiS {n:Int} (h0:0<=n) (h1:n<100):Gets (Vb n) (λr=>r.length<=2):=by
 have one:∀ (k:Nat) (m:Int),0<=m->m<10->Xp (k+1) m=some (bytesOf [IntKind.wrap IntKind.u8 (Wq (48+m))]):=λk m a b=>by
  show Yy (Xp k) m=_;unfold Yy;rw[Ug (by omega),Uf b]
 have hb:∀ x:Int,(bytesOf [x]).length=1:=λx=>rfl;unfold Vb;by_cases h:n<10
 ·refine .of (Zlj ⟨1,one 0 n h0 h⟩ (λk r hr=>?_)) (by rw[hb];omega)
  cases k with
  | zero=>cases hr
  | succ k=>rw[one k n h0 h] at hr;injection hr with hr;exact hr.symm
 ·have hd:n.tdiv 10=n / 10:=Int.tdiv_eq_ediv_of_nonneg h0
  have two:∀ k:Nat,Xp (k+2) n=some (bytesOf [IntKind.wrap IntKind.u8 (Wq (48+n / 10))]++bytesOf [IntKind.wrap IntKind.u8 (Wq (48+n.tmod 10))]):=λk=>by
   show Yy (Xp (k+1)) n=_;unfold Yy;rw[Ug (by omega),Ug h,hd,Xa (n:=n / 10) (by omega) (by omega),one k (n / 10) (by omega) (by omega),Bq,Zt (by rw[hb,hb];omega)]
  refine .of (Zlj ⟨2,two 0⟩ (λk r hr=>?_)) (by rw[Ue,hb,hb];omega)
  match k,hr with
  | 0,hr=>cases hr
  | 1,hr =>
   exfalso;revert hr;show ¬Yy (Xp 0) n=some r;unfold Yy;rw[Ug (by omega),Ug h];intro hr;cases hr
  | k+2,hr=>rw[two k] at hr;injection hr with hr;exact hr.symm
theorem Y9 {α:Type} {P:α->Prop} {l:List α} {x:α} (h:∀ y∈l,P y) (hx:P x):∀ y∈l++[x],P y:=by
 intro y hy;rcases UC.1 hy with hy | hy
 ·exact h y hy
 ·rw[UO] at hy
  rw[hy];exact hx
theorem ZkU {α:Type} {P:α->Prop} {l:List α} {x:α} {i:Nat} (h:∀ y∈l,P y) (hx:P x):∀ y∈l.set i x,P y:=by
 intro y hy;rcases List.mem_or_eq_of_mem_set hy with hy | hy
 ·exact h y hy
 ·rw[hy];exact hx
theorem smI {l:List Int} (h:l.length<=1048576):sm (.sl (.int .i64)) l:=⟨by omega,λ_ _=>trivial⟩
theorem smS {s:List UInt8} (h:s.length<=1048576):sm .str s:=by show (s.length:Int)<=1048576;omega
theorem smL {t:Ty} {l:List t.den} (h:l.length<=1048576) (h2:∀ x∈l,sm t x):sm (.sl t) l:=⟨by omega,h2⟩
theorem ZlI {s:Zc} (hs:Src s) (st:Int):Gets (VW s st) (λr=>(1<=r.1.length/\r.1.length<=3)/\Src r.2):=by
 unfold VW;refine (Zq hs st).bind λr0 ⟨_,h0⟩=>?_;refine (Zq h0 3).bind λr1 ⟨⟨a,b⟩,h1⟩=>?_;have e:Wq (1+r1.1)=1+r1.1:=Xa (by omega) (by omega);rw[e];refine Gets.loop (λv=>0<=v.2.2.1/\(v.1.length:Int)+v.2.2.1=1+r1.1/\Src (v.2.2.2.1,v.2.2.2.2.1,v.2.2.2.2.2.1,())) (λv=>v.2.2.1.toNat) ⟨by dsimp only;omega,by dsimp only[List.length_nil];omega,h1⟩ ?_;rintro ⟨out,t,n,c0,c1,c2,⟨⟩⟩ ⟨i1,i2,i3⟩;dsimp only at i1 i2 i3;show Gets (V7 st out t n c0 c1 c2) _;unfold V7;have hw:Wq (n-1)=n-1:=Xa (by omega) (by omega);rw[hw];split
 ·refine .guard (by simp only[Ud,Uc];omega) ?_
  refine (Zq i3 st).bind λr ⟨_,h2⟩=>?_;refine .ret ⟨⟨by dsimp only;omega,by dsimp only;simp only[Ue,Ud,Uc];omega,h2⟩,by dsimp only;omega⟩
 ·exact .ret ⟨⟨by dsimp only;omega,by dsimp only;omega⟩,i3⟩
theorem Zsi {a b:Nat} (ha:1<=a/\a<=3) (hb:1<=b/\b<=3):(b:Int)<=(a:Int)*(b:Int)/\(a:Int)*(b:Int)<=9:=by
 have:a=1\/a=2\/a=3:=by omega
 rcases this with rfl | rfl | rfl<;>omega
theorem ZkJ {s:Zc} (hs:Src s) (base:Int):Gets (Zcz s base) (λr=>sm JI r.1/\Src r.2):=by
 unfold Zcz;refine (ZlI hs 60).bind λr0 ⟨ha,h0⟩=>?_;refine (ZlI h0 40).bind λr1 ⟨hb,h1⟩=>?_;obtain ⟨p1,p2⟩:=Zsi ha hb;refine Gets.loop (λv=>0<=v.2.1/\v.2.1<=9/\(v.1.length:Int)=v.2.1/\Src (v.2.2.1,v.2.2.2.1,v.2.2.2.2.1,())) (λv=>(9-v.2.1).toNat) ⟨by dsimp only;omega,by dsimp only;omega,by dsimp only[List.length_nil];omega,h1⟩ ?_;rintro ⟨out,i,c0,c1,c2,⟨⟩⟩ ⟨i0,i1,i2,i3⟩;dsimp only at i0 i1 i2 i3;show Gets (Zbw base r0 r1 out i c0 c1 c2) _;unfold Zbw;have e0:Wq ((r0.1.length:Int)*(r1.1.length:Int))=(r0.1.length:Int)*(r1.1.length:Int):=Xa (by omega) (by omega);have e1:Wq (i+1)=i+1:=Xa (by omega) (by omega);have e2:Wq (i-1)=i-1:=Xa (by omega) (by omega);have e3:Wq (i-(r1.1.length:Int))=i-(r1.1.length:Int):=Xa (by omega) (by omega);rw[e0,e1,e2,e3];split
 ·rename_i hi
  have nx:∀ (x:Int) (t:Zc),Src t->Gets (Zp ((List.length out+List.length [x])*(8:Nat)<=(140737488355328:Nat)) (some (.inl (out++[x],i+1,t.fst,t.snd.fst,t.snd.snd.fst,()):(List Int×Int×List Int×Int×Int×Unit) ⊕ (ZY×Zc))))
    (Rnd (λv:List Int×Int×List Int×Int×Int×Unit=>0<=v.2.1/\v.2.1<=9/\(v.1.length:Int)=v.2.1/\Src (v.2.2.1,v.2.2.2.1,v.2.2.2.2.1,())) (λv=>(9-v.2.1).toNat) (9-i).toNat (λr=>sm JI r.1/\Src r.2)):=λx t ht =>
   .guard (by simp only[Ud,Uc];omega) (.ret ⟨⟨by dsimp only;omega,by dsimp only;omega,by dsimp only;simp only[Ue,Ud,Uc];omega,ht⟩,by dsimp only;omega⟩)
  refine (Zq i3 10).bind λr ⟨_,g0⟩=>?_;refine .guard (by omega) ?_;split
  ·rename_i hm
   have hne:i≠0:=by
    intro q;rw[q,Int.zero_tmod] at hm;omega
   refine .at (by omega) (by omega) λx0 _ _=>?_;refine (Zq g0 20).bind λr2 ⟨_,g1⟩=>?_;split
   ·refine .at (by omega) (by omega) λx1 _ _=>?_
    refine (Zq g1 20).bind λr3 ⟨_,g2⟩=>?_;exact nx _ _ g2
   ·exact nx _ _ g1
  ·split
   ·refine .at (by omega) (by omega) λx1 _ _=>?_
    refine (Zq g0 20).bind λr3 ⟨_,g2⟩=>?_;exact nx _ _ g2
   ·exact nx _ _ g0
 ·exact .ret ⟨⟨smI (by dsimp only;omega),smI (by dsimp only;omega),smI (by dsimp only;omega),trivial⟩,i3⟩
theorem Zgl {s:Zc} (hs:Src s) (base:Int):Gets (XR s base) (λr=>sm (.sl JI) r.1/\Src r.2):=by
 unfold XR;refine (ZkJ hs base).bind λr0 ⟨a,h0⟩=>?_;refine (ZkJ h0 base).bind λr1 ⟨b,h1⟩=>?_;refine .ret ⟨smL (by dsimp only[List.length_cons,List.length_nil];omega) (λx hx=>?_),h1⟩;rcases Uo.1 hx with rfl | hx
 ·exact a
 ·rw[UO] at hx
  rw[hx];exact b
theorem Zgr {s:Zc} (hs:Src s) (k f t se:Int):Gets (XK s k f t se) (λr=>sm ZkI r.1/\Src r.2):=by
 unfold XK;split
 ·refine (Zq hs 10).bind λr0 ⟨_,h0⟩=>?_
  refine (Zgl h0 _).bind λr1 ⟨a,h1⟩=>?_;exact .ret ⟨⟨trivial,trivial,trivial,trivial,a,smL (by simp) (by simp),trivial⟩,h1⟩
 ·refine (Zq hs 20).bind λr0 ⟨_,h0⟩=>?_
  refine (Zgl h0 _).bind λr1 ⟨a,h1⟩=>?_;refine (Zgl h1 _).bind λr2 ⟨b,h2⟩=>?_;exact .ret ⟨⟨trivial,trivial,trivial,trivial,a,b,trivial⟩,h2⟩
theorem Zd4 {c:Zl} {pin b:Int} (hu:(0:Int)<=IntKind.wrap IntKind.u64 pin) (hbit:Wq ((1:Int)*(2:Int) ^ Min.min (Int.toNat (IntKind.wrap IntKind.u64 pin)) (IntKind.bits IntKind.i64))=b) (hL:(KK c).length<=8) (b0:0<=b) (b1:b<=8)
  (hb:∀ i:Int,0<=i->i<((KK c).length:Int)->Go.bits Go.BinOp.and IntKind.i64 i b=0->i+b<((KK c).length:Int)):Gets (ZbA c pin) (λ_=>True):=by
 unfold ZbA;refine .guard hu ?_;refine Gets.loop (λv=>0<=v.2.2.1/\v.2.2.1<=8) (λv=>(8-v.2.2.1).toNat) ⟨by dsimp only;omega,by dsimp only;omega⟩ ?_;rintro ⟨ra,lo,i,⟨⟩⟩ ⟨i0,i1⟩;dsimp only at i0 i1;show Gets (ZaL c pin ra lo i) _;unfold ZaL;have e1:Wq (i+1)=i+1:=Xa (by omega) (by omega);have e2:Wq (i+b)=i+b:=Xa (by omega) (by omega);simp only[hbit,e1,e2];split
 ·rename_i hi
  have nx:∀ r l:Bool,Gets (some (.inl (r,l,i+1,()):(Bool×Bool×Int×Unit) ⊕ Int)) (Rnd (λv:Bool×Bool×Int×Unit=>0<=v.2.2.1/\v.2.2.1<=8) (λv=>(8-v.2.2.1).toNat) (8-i).toNat (λ_=>True)):=λr l =>
   .ret ⟨⟨by dsimp only;omega,by dsimp only;omega⟩,by dsimp only;omega⟩
  split
  ·rename_i hz
   have hlt:=hb i i0 hi hz;repeat' first
    | exact nx _ _
    | split
    | refine Gets.at (by omega) (by omega) λ_ _ _=>?_
  ·exact nx _ _
 ·repeat' first
   | exact Gets.ret (show Rnd _ _ _ (λ_=>True) (.inr _) from trivial)
   | split
theorem eight {i:Int} (h0:0<=i) (h1:i<8):i=0\/i=1\/i=2\/i=3\/i=4\/i=5\/i=6\/i=7:=by omega
theorem Zol {c:Zl} {pin:Int} (h:((KK c).length=2/\pin=0)\/((KK c).length=4/\(pin=0\/pin=1))\/((KK c).length=8/\(pin=0\/pin=1\/pin=2))):Gets (ZbA c pin) (λ_=>True):=by
 have k0:∀ L:Int,(L=2\/L=4\/L=8)->∀ i:Int,0<=i->i<L->Go.bits Go.BinOp.and IntKind.i64 i 1=0->i+1<L:=by
  intro L hL i h0 h1 hz;rcases eight h0 (by omega) with rfl | rfl | rfl | rfl | rfl | rfl | rfl | rfl<;>first | omega | exact absurd hz (by decide)
 have k1:∀ L:Int,(L=4\/L=8)->∀ i:Int,0<=i->i<L->Go.bits Go.BinOp.and IntKind.i64 i 2=0->i+2<L:=by
  intro L hL i h0 h1 hz;rcases eight h0 (by omega) with rfl | rfl | rfl | rfl | rfl | rfl | rfl | rfl<;>first | omega | exact absurd hz (by decide)
 have k2:∀ L:Int,L=8->∀ i:Int,0<=i->i<L->Go.bits Go.BinOp.and IntKind.i64 i 4=0->i+4<L:=by
  intro L hL i h0 h1 hz;rcases eight h0 (by omega) with rfl | rfl | rfl | rfl | rfl | rfl | rfl | rfl<;>first | omega | exact absurd hz (by decide)
 rcases h with ⟨hl,rfl⟩ | ⟨hl,rfl | rfl⟩ | ⟨hl,rfl | rfl | rfl⟩
 ·exact Zd4 (b:=1) (by decide) (by decide) (by omega) (by omega) (by omega) (k0 _ (by omega))
 ·exact Zd4 (b:=1) (by decide) (by decide) (by omega) (by omega) (by omega) (k0 _ (by omega))
 ·exact Zd4 (b:=2) (by decide) (by decide) (by omega) (by omega) (by omega) (k1 _ (by omega))
 ·exact Zd4 (b:=1) (by decide) (by decide) (by omega) (by omega) (by omega) (k0 _ (by omega))
 ·exact Zd4 (b:=2) (by decide) (by decide) (by omega) (by omega) (by omega) (k1 _ (by omega))
 ·exact Zd4 (b:=4) (by decide) (by decide) (by omega) (by omega) (by omega) (k2 _ (by omega))
theorem Ze5 {s:Zc} (hs:Src s) {nm:List UInt8} (hn:nm.length<=5) {tr:List Int} (ht:tr.length=2\/tr.length=4\/tr.length=8):Gets (Vx s nm tr) (λr=>sm Zdq r.1/\Src r.2):=by
 unfold Vx;refine (Zq hs 50).bind λr0 ⟨_,h0⟩=>?_;refine (Zq h0 80).bind λr1 ⟨_,h1⟩=>?_;refine Gets.loop (λv=>((v.1.length=0/\v.2.1=1)\/(v.1.length=1/\v.2.1=2)\/(v.1.length=2/\v.2.1=4)\/(v.1.length=3/\v.2.1=8))/\v.2.1<=(tr.length:Int)/\(∀ x∈v.1,sm Zlt x)/\Src (v.2.2.1,v.2.2.2.1,v.2.2.2.2.1,())) (λv=>(8-v.2.1).toNat)
  ⟨.inl ⟨rfl,rfl⟩,by dsimp only;omega,λx hx=>(by cases hx),h1⟩ ?_
 rintro ⟨pins,n,c0,c1,c2,⟨⟩⟩ ⟨i1,i2,i3,i4⟩;dsimp only at i1 i2 i3 i4;show Gets (Zby nm tr r0 r1 pins n c0 c1 c2) _;unfold Zby
 split
 ·rename_i hlt
  refine .at (by omega) (by simp only[Ud,Uc];omega) λx hx _=>?_;have hx1:x.length<=1:=by
   simp only[Uo,UI,U0] at hx;rcases hx with rfl | rfl | rfl | rfl<;>exact UF _
  refine (Zq i4 9).bind λr ⟨_,h2⟩=>?_;have e1:Wq (2*n)=2*n:=Xa (by omega) (by omega);rw[e1];refine .guard (by simp only[Ud,Uc];omega) (.ret ⟨⟨?_,by dsimp only;omega,Y9 i3 ⟨smS (by (try dsimp only);omega),trivial,trivial,trivial,trivial⟩,h2⟩,by dsimp only;omega⟩);dsimp only;simp only[Ue,Ud,Uc];omega
 ·refine .guard (by simp only[Ud,Uc];omega) ?_
  refine Gets.loop (λv=>0<=v.2.1/\v.2.1<=3/\(v.1.length:Int)<=v.2.1/\(∀ x∈v.1,sm ZkI x)/\Src (v.2.2.1,v.2.2.2.1,v.2.2.2.2.1,())) (λv=>(3-v.2.1).toNat) ⟨by dsimp only;omega,by dsimp only;omega,by dsimp only[List.length_nil];omega,λx hx=>(by cases hx),i4⟩ ?_;rintro ⟨arcs,p,d0,d1,d2,⟨⟩⟩ ⟨j0,j1,j2,j3,j4⟩;dsimp only at j0 j1 j2 j3 j4;show Gets (Zbx nm tr r0 r1 pins arcs p d0 d1 d2) _;unfold Zbx;have e1:Wq (p+1)=p+1:=Xa (by omega) (by omega);rw[e1];split
  ·rename_i hp
   refine (Zol (by
    show (tr.length=2/\p=0)\/(tr.length=4/\(p=0\/p=1))\/(tr.length=8/\(p=0\/p=1\/p=2));omega)).bind λse _=>?_
   split
   ·exact .ret ⟨⟨by dsimp only;omega,by dsimp only;omega,by dsimp only;omega,j3,j4⟩,by dsimp only;omega⟩
   ·refine (Zgr j4 1 p _ se).bind λr ⟨ha,h2⟩=>?_
    refine .guard (by simp only[Ud,Uc];omega) (.ret ⟨⟨by dsimp only;omega,by dsimp only;omega,?_,Y9 j3 ha,h2⟩,by dsimp only;omega⟩);dsimp only;simp only[Ue,Ud,Uc];omega
  ·refine .ret ⟨⟨smS (by (try dsimp only);omega),trivial,smL ?_ (Y9 i3 ⟨smS (by dsimp only[List.length_cons,List.length_nil];omega),trivial,trivial,trivial,trivial⟩),smL (by (try dsimp only);omega) j3,smI (by (try dsimp only);omega),trivial,trivial,trivial⟩,j4⟩
   (try dsimp only)
   simp only[Ue,Ud,Uc];omega
theorem Zjd {s:Zc} (hs:Src s) {nm:List UInt8} (hn:nm.length<=5) (k e:Int):Gets (QK s nm k e) (λr=>sm Zdq r.1/\Src r.2):=by
 have hp:∀ a b:Int,sm (.sl Zlt) [([(100:UInt8)],(1:Int),a,Bool.false,()),([(99:UInt8),(107:UInt8)],(1:Int),b,Bool.true,()),([(113:UInt8)],(2:Int),(0:Int),Bool.false,())]:=λa b=>by
  refine smL (by (try dsimp only);simp only[Ud,Uc];omega) (λx hx=>?_);simp only[Uo,UI,U0] at hx;rcases hx with rfl | rfl | rfl<;>exact ⟨smS (by simp only[Ud,Uc];omega),trivial,trivial,trivial,trivial⟩
 unfold QK;refine (Zq hs 50).bind λr0 ⟨_,h0⟩=>?_;refine (Zq h0 80).bind λr1 ⟨_,h1⟩=>?_;refine (Zq h1 9).bind λr2 ⟨_,h2⟩=>?_;refine (Zq h2 9).bind λr3 ⟨_,h3⟩=>?_;refine (Zgr h3 e 1 2 0).bind λa0 ⟨g0,h4⟩=>?_;refine (Zgr h4 4 1 0 0).bind λa1 ⟨g1,h5⟩=>?_;refine (Zgr h5 5 1 0 0).bind λa2 ⟨g2,h6⟩=>?_;have h3a:∀ x∈[a0.1,a1.1,a2.1],sm ZkI x:=λx hx=>by
  simp only[Uo,UI,U0] at hx;rcases hx with rfl | rfl | rfl
  ·exact g0
  ·exact g1
  ·exact g2
 split
 ·refine (Zgr h6 1 0 2 1).bind λa3 ⟨g3,h7⟩=>?_
  refine .guard (by simp only[Ud,Uc];omega) (.ret ⟨⟨smS (by (try dsimp only);omega),trivial,hp _ _,smL (by (try dsimp only);simp only[Ue,Ud,Uc];omega) (Y9 h3a g3),smI (by simp),trivial,trivial,trivial⟩,h7⟩)
 ·exact .ret ⟨⟨smS (by (try dsimp only);omega),trivial,hp _ _,smL (by (try dsimp only);simp only[Ud,Uc];omega) h3a,smI (by simp),trivial,trivial,trivial⟩,h6⟩
theorem ZqX {s:Zc} (hs:Src s):Gets (ZdN s) (λr=>(sm Qf r.1/\(KE r.1).length=8)/\Src r.2):=by
 unfold ZdN;refine (Ze5 hs (by simp only[Ud,Uc];omega) (by simp)).bind λr0 ⟨g0,h0⟩=>?_;refine (Ze5 h0 (by simp only[Ud,Uc];omega) (by simp)).bind λr1 ⟨g1,h1⟩=>?_;refine (Ze5 h1 (by simp only[Ud,Uc];omega) (by simp)).bind λr2 ⟨g2,h2⟩=>?_;refine (Ze5 h2 (by simp only[Ud,Uc];omega) (by simp)).bind λr3 ⟨g3,h3⟩=>?_;refine (Ze5 h3 (by simp only[Ud,Uc];omega) (by simp)).bind λr4 ⟨g4,h4⟩=>?_;refine (Zjd h4 (by simp only[Ud,Uc];omega) 2 2).bind λr5 ⟨g5,h5⟩=>?_;refine (Zjd h5 (by simp only[Ud,Uc];omega) 2 3).bind λr6 ⟨g6,h6⟩=>?_;refine (Zjd h6 (by simp only[Ud,Uc];omega) 3 2).bind λr7 ⟨g7,h7⟩=>?_;refine .ret ⟨⟨⟨smL (by (try dsimp only);simp only[Ud,Uc];omega) (λx hx=>?_),trivial⟩,rfl⟩,h7⟩;simp only[Uo,UI,U0] at hx;rcases hx with rfl | rfl | rfl | rfl | rfl | rfl | rfl | rfl<;>assumption
def ZoC (x:Zo):Prop:=(∃ r,Gs x=117::r/\r.length<=2)/\(2<=(KM x).length/\(KM x).length<=4)
def Zt2 (s:List UInt8):Prop:=∃ r,s=110::r/\r.length<=2
def Zqu (p:YE):Prop:=(Gt p).length<=2
structure Zrz (d:Zg):Prop where
 n0:2<=(Kr d).length
 n1:(Kr d).length<=9
 inst:∀ x∈Kr d,ZoC x
 nl:(KI d).length=(Kr d).length+3
 net:∀ s∈KI d,Zt2 s
 p0:4<=(KB d).length
 p1:(KB d).length<=5
 port:∀ p∈KB d,Zqu p
theorem Zmy {s:Zc} (hs:Src s) {most:Int} (hm1:1<=most) (hm2:most<=8) (wild:Bool):Gets (ZdP s most wild) (λr=>Zrz r.1/\Src r.2):=by
 unfold ZdP;have em:Wq (most-1)=most-1:=Xa (by omega) (by omega);rw[em];refine (Zq hs _).bind λr0 ⟨⟨a0,a1⟩,h0⟩=>?_;have e:Wq (2+r0.1)=2+r0.1:=Xa (by omega) (by omega);rw[e];have hN:2<=2+r0.1/\2+r0.1<=9:=by omega
 generalize 2+r0.1=N at hN;refine Gets.loop (λv=>0<=v.2.2.1/\(v.1.length:Int)+v.2.2.1=N/\v.2.1.length=v.1.length+3/\(∀ x∈v.1,ZoC x)/\(∀ x∈v.2.1,Zt2 x)/\Src (v.2.2.2.1,v.2.2.2.2.1,v.2.2.2.2.2.1,())) (λv=>v.2.2.1.toNat)
  ⟨by dsimp only;omega,by grind,rfl,λx hx=>(by cases hx),λx hx=>?_,h0⟩ ?_
 ·simp only[Uv,Uo,UI,U0] at hx
  rcases hx with rfl | rfl | rfl
  ·exact ⟨_,rfl,UF _⟩
  ·exact ⟨_,rfl,by simp⟩
  ·exact ⟨_,rfl,by simp⟩
 rintro ⟨ins,nets,n,c0,c1,c2,⟨⟩⟩ ⟨i1,i2,i3,i4,i5,i6⟩;dsimp only at i1 i2 i3 i4 i5 i6;show Gets (ZbD wild ins nets n c0 c1 c2) _;unfold ZbD;split
 ·rename_i hn
  refine (Zq i6 12).bind λr ⟨⟨b0,b1⟩,h1⟩=>?_;refine .at b0 (by simp only[Ud,Uc];omega) λx hx _=>?_;have hx7:0<=x/\x<=7:=by
   simp only[Uo,UI,U0] at hx;omega
  refine (ZiS (n:=(ins.length:Int)) (by omega) (by omega)).bind λnm hnm=>?_;refine .guard (by grind) ?_;refine Gets.loop (λv=>0<=v.1/\v.1<=3/\(v.2.2.2.2.1.length:Int)=v.1/\Src (v.2.1,v.2.2.1,v.2.2.2.1,())) (λv=>(3-v.1).toNat) ⟨by dsimp only;omega,by dsimp only;omega,rfl,h1⟩ ?_;rintro ⟨p,d0,d1,d2,l,⟨⟩⟩ ⟨j0,j1,j2,j3⟩;dsimp only at j0 j1 j2 j3;show Gets (ZbB ins nets n x nm p d0 d1 d2 l) _;unfold ZbB;refine .at hx7.1 (by grind) λk hk _=>?_;have hk4:2<=k/\k<=4:=by
   simp only[Uo,UI,U0] at hk;omega
  have ek:Wq (k-1)=k-1:=Xa (by omega) (by omega);have ep:Wq (p+1)=p+1:=Xa (by omega) (by omega);have en:Wq (n-1)=n-1:=Xa (by omega) (by omega);simp only[ek,ep,en];split
  ·rename_i hpk
   refine (Zq j3 _).bind λr2 ⟨_,h2⟩=>?_;refine (Zq h2 3).bind λr3 ⟨_,h3⟩=>?_;repeat' first
    | split
    | refine Gets.guard (by simp only[Ue,Ud,Uc];omega) ?_
    | exact .ret ⟨⟨by dsimp only;omega,by dsimp only;omega,by grind,h3⟩,by dsimp only;omega⟩
  ·refine .guard (by grind) ?_
   refine .guard (by grind) ?_;refine (ZiS (n:=(nets.length:Int)) (by omega) (by omega)).bind λnn hnn=>?_;refine .guard (by grind) ?_;refine .guard (by grind) ?_;refine .guard (by grind) ?_;refine .ret ⟨⟨by dsimp only;omega,by grind,by grind,Y9 i4 ⟨⟨nm,rfl,hnm⟩,?_⟩,Y9 i5 ⟨nn,rfl,hnn⟩,j3⟩,by dsimp only;omega⟩;grind
 ·rename_i hn
  refine Gets.loop (λv=>0<=v.1/\v.1<=9/\v.2.2.2.2.1.length=ins.length/\(∀ x∈v.2.2.2.2.1,ZoC x)/\Src (v.2.1,v.2.2.1,v.2.2.2.1,())) (λv=>(9-v.1).toNat) ⟨by dsimp only;omega,by dsimp only;omega,rfl,i4,i6⟩ ?_;rintro ⟨p,d0,d1,d2,l,⟨⟩⟩ ⟨j0,j1,j2,j3,j4⟩;dsimp only at j0 j1 j2 j3 j4;show Gets (ZbC wild nets p d0 d1 d2 l) _;unfold ZbC;have ep:Wq (p+1)=p+1:=Xa (by omega) (by omega);simp only[ep];split
  ·rename_i hp
   refine (Zq j4 4).bind λr ⟨_,h1⟩=>?_;split
   ·refine .at j0 hp λx hx hxi=>?_
    have hxd:=j3 x hx;have st:∀ v:Int,Gets ((Zf r.2 v).bind λl01Next2=>(atI x.snd.snd.fst (0:Int)).bind λx1=>some (.inl (p+1,l01Next2.snd.fst,l01Next2.snd.snd.fst,l01Next2.snd.snd.snd.fst,List.set l (Int.toNat p) (x.fst,x.snd.fst,List.set x.snd.snd.fst (Int.toNat (0:Int)) (Wq ((1:Int)+l01Next2.fst)),()),()):(Int×(List Int)×Int×Int×(List (List UInt8×Int×List Int×Unit))×Unit) ⊕ (((List Zo)×(List (List UInt8))×Int×(List Int)×Int×Int×Unit) ⊕ (Zg×Zc))))
      (Rnd (λv:Int×(List Int)×Int×Int×(List (List UInt8×Int×List Int×Unit))×Unit=>0<=v.1/\v.1<=9/\v.2.2.2.2.1.length=ins.length/\(∀ x∈v.2.2.2.2.1,ZoC x)/\Src (v.2.1,v.2.2.1,v.2.2.2.1,())) (λv=>(9-v.1).toNat) (9-p).toNat
       (Rnd (λv:(List Zo)×(List (List UInt8))×Int×(List Int)×Int×Int×Unit=>0<=v.2.2.1/\(v.1.length:Int)+v.2.2.1=N/\v.2.1.length=v.1.length+3/\(∀ x∈v.1,ZoC x)/\(∀ x∈v.2.1,Zt2 x)/\Src (v.2.2.2.1,v.2.2.2.2.1,v.2.2.2.2.2.1,())) (λv=>v.2.2.1.toNat) n.toNat (λr=>Zrz r.1/\Src r.2))):=λv=>by
     refine (Zq h1 v).bind λr2 ⟨_,h2⟩=>?_;refine .at (by omega) (by have:=hxd.2.1;grind) λ_ _ _=>?_;refine .ret ⟨⟨by dsimp only;omega,by dsimp only;omega,by grind,ZkU j3 ⟨hxd.1,?_⟩,h2⟩,by dsimp only;omega⟩;show 2<=(List.set (KM x) _ _).length/\(List.set (KM x) _ _).length<=4;rw[UT];exact hxd.2
    repeat' first
     | exact st _
     | split
     | exact .ret ⟨⟨by dsimp only;omega,by dsimp only;omega,by grind,ZkU j3 hxd,h1⟩,by dsimp only;omega⟩
   ·exact .ret ⟨⟨by dsimp only;omega,by dsimp only;omega,j2,j3,h1⟩,by dsimp only;omega⟩
  ·refine .guard (by grind) ?_
   refine (Zq j4 2).bind λr ⟨_,h1⟩=>?_;have four:∀ a:Int,∀ p∈(([]:List (List UInt8×Int×Int×Unit))++[([(99:UInt8),(107:UInt8)],(1:Int),(0:Int),()),([(97:UInt8)],(1:Int),(1:Int),()),([(98:UInt8)],(1:Int),(2:Int),())]++[([(121:UInt8)],(2:Int),a,())]),Zqu p:=λa p hp=>by
    simp only[Uv,UR,Uo,UI,U0] at hp;unfold Zqu;grind
   split
   ·refine (Zq h1 _).bind λr2 ⟨_,h2⟩=>?_
    refine .guard (by grind) ?_;refine .ret ⟨⟨?_,?_,j3,?_,i5,?_,?_,Y9 (four _) (show 1<=2 by omega)⟩,h2⟩;all_goals grind
   ·refine .ret ⟨⟨?_,?_,j3,?_,i5,?_,?_,four _⟩,h1⟩
    all_goals grind
theorem Zrz.few {d:Zg} (h:Zrz d):Few d:=⟨by have:=h.n1;omega,by have:=h.p1;omega,λx hx=>by have:=(h.inst x hx).2.2;omega⟩
theorem Zrz.sm {d:Zg} (h:Zrz d):sm XZ d:=by
 have:=h.n1;have:=h.p1;have:=h.nl;refine ⟨smL (by grind) (λx hx=>?_),smL (by grind) (λx hx=>?_),smL (by grind) (λx hx=>?_),trivial⟩
 ·obtain ⟨⟨r,e,hr⟩,h2⟩:=h.inst x hx
  refine ⟨smS ?_,trivial,smI ?_,trivial⟩;all_goals grind
 ·obtain ⟨r,e,hr⟩:=h.net x hx
  refine smS ?_;grind
 ·have:=h.port x hx
  unfold Zqu at this;exact ⟨smS (by grind),trivial,trivial,trivial⟩
def ZoE (w:ZH):Prop:=(1<=(Kw w).length/\(Kw w).length<=4)/\(K3 w).length=(Kw w).length/\(Gj w).length=(Kw w).length/\(K5 w).length<=100
theorem ZoE.sm {w:ZH} (h:ZoE w):sm ZiL w:=by
 obtain ⟨h1,h2,h3,h4⟩:=h;exact ⟨smI (by grind),smI (by grind),smI (by grind),smI (by grind),trivial⟩
theorem ZmF (l:List Int) (h:l.length<=1048576):ZaZ l=some l:=by
 have h2:((([]:List Int).length+l.length)*8<=140737488355328):=by grind
 unfold ZaZ;first
  | (rw[Zt h2,Uv])
  | (rw[Zt h2];rfl)
  | rfl
theorem Zqo {s:Zc} (hs:Src s) {k:Int} (h0:0<=k) (h1:k<=100):Gets (Zau s k) (λr=>ZoE r.1/\Src r.2):=by
 unfold Zau;refine (Zq hs 6).bind λr0 ⟨_,g0⟩=>?_;have hl:Zcj k r0.1=some ([(-1:Int)],[(0:Int)],[r0.1],List.replicate (Int.toNat k) (0:Int),()):=by
  unfold Zcj;rw[Zt (by omega),Zt (by omega),Zt (by omega),Zt (by omega)]
 rw[hl,Bq];refine (Zq g0 4).bind λr1 ⟨⟨a,b⟩,g1⟩=>?_;refine Gets.loop (λv=>0<=v.1/\(v.2.2.2.2.1.length:Int)+v.1=1+r1.1/\1<=v.2.2.2.2.1.length/\v.2.2.2.2.2.1.length=v.2.2.2.2.1.length/\v.2.2.2.2.2.2.1.length=v.2.2.2.2.1.length/\v.2.2.2.2.2.2.2.1.length<=100/\Src (v.2.1,v.2.2.1,v.2.2.2.1,())) (λv=>v.1.toNat)
  ⟨a,by grind,UF _,rfl,rfl,by grind,g1⟩ ?_
 rintro ⟨n,c0,c1,c2,l1,l2,l3,l4,⟨⟩⟩ ⟨i0,i1,i2,i3,i4,i5,i6⟩;dsimp only at i0 i1 i2 i3 i4 i5 i6;show Gets (V9 n c0 c1 c2 l1 l2 l3 l4) _;unfold V9;have en:Wq (n-1)=n-1:=Xa (by omega) (by omega);simp only[en];split
 ·rw[ZmF l1 (by omega),Bq,ZmF l2 (by omega),ZmF l3 (by omega)]
  refine (Zq i6 _).bind λr2 ⟨_,h2⟩=>?_;refine .guard (by grind) ?_;rw[Bq];refine (Zq h2 _).bind λr3 ⟨_,h3⟩=>?_;refine .guard (by grind) ?_;rw[Bq];refine (Zq h3 _).bind λr4 ⟨_,h4⟩=>?_;refine .guard (by grind) ?_;refine .ret ⟨⟨by dsimp only;omega,?_,?_,?_,?_,i5,h4⟩,by dsimp only;omega⟩;all_goals grind
 ·refine Gets.loop (λv=>0<=v.1/\v.1<=100/\v.2.2.2.2.1.length=l4.length/\Src (v.2.1,v.2.2.1,v.2.2.2.1,())) (λv=>(100-v.1).toNat) ⟨by dsimp only;omega,by dsimp only;omega,rfl,i6⟩ ?_
  rintro ⟨p,d0,d1,d2,l,⟨⟩⟩ ⟨j0,j1,j2,j3⟩;dsimp only at j0 j1 j2 j3;show Gets (V8 l1 l2 l3 p d0 d1 d2 l) _;unfold V8;have ep:Wq (p+1)=p+1:=Xa (by omega) (by omega);simp only[ep];split
  ·rename_i hp
   refine (Zq j3 _).bind λr2 ⟨_,h2⟩=>?_;refine .at j0 hp λ_ _ _=>?_;exact .ret ⟨⟨by dsimp only;omega,by dsimp only;omega,by grind,h2⟩,by dsimp only;omega⟩
  ·refine .ret ⟨⟨⟨?_,?_⟩,i3,i4,?_⟩,j3⟩
   all_goals grind
structure ZkO (b:Zi):Prop where
 lib:sm Qf (Gm b)
 des:Zrz (Kq b)
 wl:(KN b).length=(KI (Kq b)).length
 wires:∀ w∈KN b,ZoE w
theorem ZkO.sm {b:Zi} (h:ZkO b):sm Vu b:=by
 have:=h.wl;have:=h.des.nl;have:=h.des.n1;exact ⟨h.lib,h.des.sm,smL (by grind) (λw hw=>(h.wires w hw).sm),trivial⟩
theorem Zkn {s:Zc} (hs:Src s) {most:Int} (hm1:1<=most) (hm2:most<=8) (wild:Bool):Gets (ZcA s most wild) (λr=>ZkO r.1/\Src r.2):=by
 unfold ZcA;refine (ZqX hs).bind λr0 ⟨hl,h0⟩=>?_;refine (Zmy h0 hm1 hm2 wild).bind λr1 ⟨hd,h1⟩=>?_;have hnl:=hd.nl;have hn1:=hd.n1;refine Gets.loop (λv=>0<=v.2.1/\v.2.1<=((KI r1.1).length:Int)/\(v.1.length:Int)=v.2.1/\(∀ w∈v.1,ZoE w)/\Src (v.2.2.1,v.2.2.2.1,v.2.2.2.2.1,())) (λv=>(100-v.2.1).toNat)
  ⟨by dsimp only;omega,by dsimp only;omega,rfl,λw hw=>(by cases hw),h1⟩ ?_
 rintro ⟨ws,n,c0,c1,c2,⟨⟩⟩ ⟨i0,i1,i2,i3,i4⟩;dsimp only at i0 i1 i2 i3 i4;show Gets (ZbF r0 r1 ws n c0 c1 c2) _;unfold ZbF;have en:Wq (n+1)=n+1:=Xa (by omega) (by omega);simp only[en];split
 ·rename_i hn
  have hn:n<((KI r1.1).length:Int):=hn;rw[ZeH r1.1 n hd.few,Bq];have hsl:(sinks r1.1 n).length<=78:=U9 (Zhk n (places r1.1) 0) (XQ hd.few);refine (Zqo i4 (k:=((sinks r1.1 n).length:Int)) (by omega) (by omega)).bind λr ⟨hw,h2⟩=>?_;refine .guard (by grind) (.ret ⟨⟨by dsimp only;omega,by dsimp only;omega,?_,Y9 i3 hw,h2⟩,by dsimp only;omega⟩);grind
 ·rename_i hn
  have hn:¬n<((KI r1.1).length:Int):=hn;refine .ret ⟨⟨hl.1,hd,?_,i3⟩,i4⟩;grind
def Zdr (c:Zd):Prop:=(KQ c).length<=4
theorem Zi4 {s:Zc} (hs:Src s):Gets (ZcB s) (λr=>((1<=r.1.length/\r.1.length<=7)/\∀ c∈r.1,Zdr c)/\Src r.2):=by
 unfold ZcB;refine (Zq hs 5).bind λr0 ⟨⟨a0,a1⟩,h0⟩=>?_;have e:Wq (1+r0.1)=1+r0.1:=Xa (by omega) (by omega);rw[e];refine Gets.loop (λv=>0<=v.2.1/\(v.1.length:Int)+v.2.1=1+r0.1/\(∀ c∈v.1,Zdr c)/\Src (v.2.2.1,v.2.2.2.1,v.2.2.2.2.1,())) (λv=>v.2.1.toNat)
  ⟨by dsimp only;omega,by dsimp only[List.length_nil];omega,λx hx=>(by cases hx),h0⟩ ?_
 rintro ⟨l,n,c0,c1,c2,⟨⟩⟩ ⟨i0,i1,i2,i3⟩;dsimp only at i0 i1 i2 i3;show Gets (ZbI l n c0 c1 c2) _;unfold ZbI;have en:Wq (n-1)=n-1:=Xa (by omega) (by omega);simp only[en];split
 ·rename_i hn
  have nx:∀ (c:Zd) (t:Zc),Zdr c->Src t->Gets (some (.inl (l++[c],n-1,t.fst,t.snd.fst,t.snd.snd.fst,()):((List Zd)×Int×(List Int)×Int×Int×Unit) ⊕ ((List Zd)×Zc)))
    (Rnd (λv:(List Zd)×Int×(List Int)×Int×Int×Unit=>0<=v.2.1/\(v.1.length:Int)+v.2.1=1+r0.1/\(∀ c∈v.1,Zdr c)/\Src (v.2.2.1,v.2.2.2.1,v.2.2.2.2.1,())) (λv=>v.2.1.toNat) n.toNat (λr=>((1<=r.1.length/\r.1.length<=7)/\∀ c∈r.1,Zdr c)/\Src r.2)):=λc t hc ht =>
   .ret ⟨⟨by dsimp only;omega,by dsimp only;simp only[Ue,Ud,Uc];omega,Y9 i2 hc,ht⟩,by dsimp only;omega⟩
  refine (Zq i3 30).bind λr1 ⟨_,h1⟩=>?_;refine (ZiS (n:=(l.length:Int)) (by omega) (by omega)).bind λnm hnm=>?_;have hcl:∀ x,Zdr (([(99:UInt8)]++nm,x):Zd):=λx=>by
   show ([(99:UInt8)]++nm).length<=4;simp only[Ue,Ud,Uc];omega
  refine .guard (by simp only[Ud,Uc];omega) ?_;refine (Zq h1 20).bind λr2 ⟨_,h2⟩=>?_;refine (Zq h2 20).bind λr3 ⟨_,h3⟩=>?_;refine (Zq h3 8).bind λr4 ⟨_,h4⟩=>?_;have per:∀ x∈([(10:Int),(12:Int),(20:Int),(30:Int),(100:Int),(7:Int),(2:Int)]),x≠0:=λx hx=>by
   simp only[Uo,UI,U0] at hx;omega
  split
  ·refine (Zq h4 7).bind λr5 ⟨⟨b0,b1⟩,h5⟩=>?_
   refine .at b0 (by simp only[Ud,Uc];omega) λx hx _=>?_;refine (Zq h5 _).bind λr6 ⟨_,h6⟩=>?_;refine (Zq h6 _).bind λr7 ⟨_,h7⟩=>?_;refine .guard (per x hx) ?_;refine .guard (by simp only[Ud,Uc];omega) ?_;exact nx _ _ (hcl _) h7
  ·refine (Zq h4 3).bind λr5 ⟨_,h5⟩=>?_
   split
   ·refine (Zq h5 7).bind λr6 ⟨⟨b0,b1⟩,h6⟩=>?_
    refine .at b0 (by simp only[Ud,Uc];omega) λx hx _=>?_;refine (Zq h6 _).bind λr7 ⟨_,h7⟩=>?_;refine (Zq h7 _).bind λr8 ⟨_,h8⟩=>?_;refine .guard (per x hx) ?_;refine .guard (by simp only[Ud,Uc];omega) ?_;exact nx _ _ (hcl _) h8
   ·refine (Zq h5 _).bind λr6 ⟨_,h6⟩=>?_
    refine (Zq h6 _).bind λr7 ⟨_,h7⟩=>?_;refine (Zq h7 _).bind λr8 ⟨_,h8⟩=>?_;refine .guard (by simp only[Ud,Uc];omega) ?_;exact nx _ _ (hcl _) h8
 ·rename_i hn
  refine (Zq i3 _).bind λr1 ⟨⟨b0,b1⟩,h1⟩=>?_;refine (Zq h1 30).bind λr2 ⟨_,h2⟩=>?_;have hl:1<=l.length/\l.length<=5:=by omega
  have fs:∀ (i:Nat) (c:Zd) (t:Zc),Zdr c->Src t->Gets (some (.inr (List.set l i c,t):((List Zd)×Int×(List Int)×Int×Int×Unit) ⊕ ((List Zd)×Zc)))
    (Rnd (λv:(List Zd)×Int×(List Int)×Int×Int×Unit=>0<=v.2.1/\(v.1.length:Int)+v.2.1=1+r0.1/\(∀ c∈v.1,Zdr c)/\Src (v.2.2.1,v.2.2.2.1,v.2.2.2.2.1,())) (λv=>v.2.1.toNat) n.toNat (λr=>((1<=r.1.length/\r.1.length<=7)/\∀ c∈r.1,Zdr c)/\Src r.2)):=λi c t hc ht =>
   .ret (show ((1<=(List.set l i c).length/\(List.set l i c).length<=7)/\∀ c'∈List.set l i c,Zdr c')/\Src t from ⟨⟨by rw[UT];omega,ZkU i2 hc⟩,ht⟩)
  have hb1:r1.1<(l.length:Int):=by omega
  have nm:∀ x∈l,(KQ x).length<=4:=i2;split
  ·refine (Zq h2 2).bind λr3 ⟨_,h3⟩=>?_
   exact .at b0 hb1 λx hx _=>fs _ _ _ (nm x hx) h3
  split
  ·exact .at b0 hb1 λx hx _=>fs _ _ _ (nm x hx) h2
  split
  ·exact .at (by omega) (by omega) λx hx _=>.at b0 hb1 λy _ _=>fs _ _ _ (nm x hx) h2
  split
  ·exact .at b0 hb1 λx hx _=>fs _ _ _ (nm x hx) h2
  split
  ·exact .at b0 hb1 λx hx _=>fs _ _ _ (nm x hx) h2
  split
  ·refine (Zq h2 2).bind λr3 ⟨_,h3⟩=>?_
   exact .at (by omega) (by omega) λx hx _=>fs _ _ _ (nm x hx) h3
  split;rotate_left
  ·exact .ret (show ((1<=l.length/\l.length<=7)/\∀ c'∈l,Zdr c')/\Src r2.2 from ⟨⟨by omega,i2⟩,h2⟩)
  refine Gets.loop (λv=>v.1.length<=7/\1<=v.1.length/\∀ c∈v.1,Zdr c) (λv=>7-v.1.length) ⟨by dsimp only;omega,hl.1,i2⟩ ?_;rintro ⟨l',⟨⟩⟩ ⟨j0,j1,j2⟩;dsimp only at j0 j1 j2;show Gets (ZbH r2 l') _;unfold ZbH;split
  ·refine .at (by omega) (by omega) λx _ _=>?_
   refine (ZiS (n:=(l'.length:Int)) (by omega) (by omega)).bind λnm hnm=>?_;refine .guard (by simp only[Ud,Uc];omega) ?_;refine .guard (by simp only[Ud,Uc];omega) ?_;refine .ret ⟨⟨?_,?_,Y9 j2 ?_⟩,?_⟩
   ·dsimp only;simp only[Ue,Ud,Uc];omega
   ·dsimp only;simp only[Ue,Ud,Uc];omega
   ·show ([(120:UInt8)]++nm).length<=4
    simp only[Ue,Ud,Uc];omega
   ·dsimp only;simp only[Ue,Ud,Uc];omega
  ·exact .ret (show ((1<=l'.length/\l'.length<=7)/\∀ c'∈l',Zdr c')/\Src r2.2 from ⟨⟨⟨j1,j0⟩,j2⟩,h2⟩)
theorem ZpO {l:List Zd} (h:∀ c∈l,Zdr c):ZpN l:=λc hc=>by
 have:=h c hc;unfold Zdr at this;omega
def ZjZ (e:Zk):Prop:=(Gp e).length<=1/\(Gn e).length<=1/\(Gz e).length<=1
structure Zvy (x:Zh):Prop where
 c0:1<=(Kt x).length
 c1:(Kt x).length<=7
 cn:∀ c∈Kt x,Zdr c
 i1:(K1 x).length<=100
 o1:(K8 x).length<=100
 e1:(KP x).length<=100
 ee:∀ e∈KP x,ZjZ e
 k0:1<=(Gr x).length
 k1:(Gr x).length<=2
 kn:∀ c∈Gr x,(KW c).length<=4
abbrev ZlB (r:Zi×Zh×Zc):Prop:=ZkO r.1/\Zvy r.2.1/\Src r.2.2
theorem ZcD:∀ c∈([([(116:UInt8),(121:UInt8),(112:UInt8)],(1000:Int),(1000:Int),(1000:Int),(1000:Int),())]:List ZB),(KW c).length<=4:=λc hc=>by
 rw[UO] at hc;rw[hc];show 3<=4;omega
abbrev Zow:=(List Zk)×Int×(List Int)×Int×Int×Unit
abbrev Zkj:=(List Zb)×(List Zb)×Int×(List Int)×Int×Int×Unit
abbrev Zhs:=Int×(List Int)×Int×Int×(List Zd)×Unit
theorem Zpb {D:Zi×Zc} (hD:ZkO D.1) {P:List Zx} {cs:List Zd} (hc0:1<=cs.length) (hc1:cs.length<=7) (hcn:∀ c∈cs,Zdr c) {ins outs:List Zb} (hi:ins.length<=100) (ho:outs.length<=100)
  {n:Int} (n0:0<=n) (n1:n<=3) {s:Zc} (hs:Src s) {Q:Zkj ⊕ (Zhs ⊕ (Zi×Zh×Zc))->Prop} (hQ:∀ r,ZlB r->Q (.inr (.inr r))) :
  Gets (Zr (λv=>Ji D P cs ins outs v.1 v.2.1 v.2.2.1 v.2.2.2.1 v.2.2.2.2.1) (([]:List Zk),n,s.fst,s.snd.fst,s.snd.snd.fst,())) Q:=by
 refine Gets.loop (λv:Zow=>0<=v.2.1/\v.2.1<=3/\(v.1.length:Int)+v.2.1<=3/\(∀ e∈v.1,ZjZ e)/\Src (v.2.2.1,v.2.2.2.1,v.2.2.2.2.1,())) (λv=>v.2.1.toNat) ⟨n0,n1,by dsimp only[List.length_nil];omega,λx hx=>(by cases hx),hs⟩ ?_;rintro ⟨l,k,c0,c1,c2,⟨⟩⟩ ⟨i0,i1,i2,i3,i4⟩;dsimp only at i0 i1 i2 i3 i4;show Gets (Ji D P cs ins outs l k c0 c1 c2) _;unfold Ji;have en:Wq (k-1)=k-1:=Xa (by omega) (by omega);simp only[en];split
 ·have nx:∀ (e:Zk) (t:Zc),ZjZ e->Src t->Gets (some (.inl (l++[e],k-1,t.fst,t.snd.fst,t.snd.snd.fst,()):Zow ⊕ (Zkj ⊕ (Zhs ⊕ (Zi×Zh×Zc)))))
    (Rnd (λv:Zow=>0<=v.2.1/\v.2.1<=3/\(v.1.length:Int)+v.2.1<=3/\(∀ e∈v.1,ZjZ e)/\Src (v.2.2.1,v.2.2.2.1,v.2.2.2.2.1,())) (λv=>v.2.1.toNat) k.toNat Q):=λe t he ht =>
   .ret ⟨⟨by dsimp only;omega,by dsimp only;omega,by dsimp only;simp only[Ue,Ud,Uc];omega,Y9 i3 he,ht⟩,by dsimp only;omega⟩
  have d0:∀ a b:Int,ZjZ ((a,b,([]:List Int),([]:List Int),([]:List Int),()):Zk):=λa b=>⟨UE _,UE _,UE _⟩;have d1:∀ a b c:Int,ZjZ ((a,b,([]:List Int),([]:List Int),[c],()):Zk):=λa b c=>⟨UE _,UE _,UF _⟩;repeat' first
   | exact nx _ _ (d0 _ _) (by assumption)
   | exact nx _ _ (d1 _ _ _) (by assumption)
   | split
   | refine Gets.guard (by simp only[Ue,Ud,Uc];omega) ?_
   | refine (Zq (by assumption) _).bind λ_ ⟨_,_⟩=>?_
 ·refine (Zq i4 2).bind λr ⟨_,h1⟩=>?_
  have hl:l.length<=100:=by omega
  split
  ·refine .ret (hQ _ ⟨hD,⟨hc0,hc1,hcn,hi,ho,hl,i3,?_,?_,Y9 ZcD ?_⟩,h1⟩)
   ·show 1<=([_]++[_]).length;simp
   ·show ([_]++[_]).length<=2;simp
   ·show 4<=4;omega
  ·exact .ret (hQ _ ⟨hD,⟨hc0,hc1,hcn,hi,ho,hl,i3,UF _,by show 1<=2;omega,ZcD⟩,h1⟩)
theorem Zpf {D:Zi×Zc} (hD:ZkO D.1) {P:List Zx} (hP:P.length<=78) (hP2:(KB (Kq D.1)).length<=P.length) {A:Int×Zc} {cs:List Zd} (hc0:1<=cs.length) (hc1:cs.length<=7) (hcn:∀ c∈cs,Zdr c)
  {s:Zc} (hs:Src s) {Q:Zhs ⊕ (Zi×Zh×Zc)->Prop} (hQ:∀ r,ZlB r->Q (.inr r)) :
  Gets (Zr (λv=>Jj D P A cs v.1 v.2.1 v.2.2.1 v.2.2.2.1 v.2.2.2.2.1 v.2.2.2.2.2.1) (([]:List Zb),([]:List Zb),Wq ((P.length:Int)-((KB (Kq D.1)).length:Int)),s.fst,s.snd.fst,s.snd.snd.fst,())) Q:=by
 rw[Xa (n:=(P.length:Int)-((KB (Kq D.1)).length:Int)) (by omega) (by omega)];refine Gets.loop (λv:Zkj=>0<=v.2.2.1/\v.2.2.1<=(P.length:Int)/\(v.1.length:Int)<=v.2.2.1/\(v.2.1.length:Int)<=v.2.2.1/\Src (v.2.2.2.1,v.2.2.2.2.1,v.2.2.2.2.2.1,())) (λv=>(100-v.2.2.1).toNat)
  ⟨by dsimp only;omega,by dsimp only;omega,by dsimp only[List.length_nil];omega,by dsimp only[List.length_nil];omega,hs⟩ ?_
 rintro ⟨ins,outs,p,c0,c1,c2,⟨⟩⟩ ⟨i0,i1,i2,i3,i4⟩;dsimp only at i0 i1 i2 i3 i4;show Gets (Jj D P A cs ins outs p c0 c1 c2) _;unfold Jj;have en:Wq (p+1)=p+1:=Xa (by omega) (by omega);simp only[en];split
 ·rename_i hp
  have nx:∀ (a b:List Zb) (t:Zc),(a.length:Int)<=p+1->(b.length:Int)<=p+1->Src t->Gets (some (.inl (a,b,p+1,t.fst,t.snd.fst,t.snd.snd.fst,()):Zkj ⊕ (Zhs ⊕ (Zi×Zh×Zc))))
    (Rnd (λv:Zkj=>0<=v.2.2.1/\v.2.2.1<=(P.length:Int)/\(v.1.length:Int)<=v.2.2.1/\(v.2.1.length:Int)<=v.2.2.1/\Src (v.2.2.2.1,v.2.2.2.2.1,v.2.2.2.2.2.1,())) (λv=>(100-v.2.2.1).toNat) (100-p).toNat Q):=λa b t ha hb ht =>
   .ret ⟨⟨by dsimp only;omega,by dsimp only;omega,ha,hb,ht⟩,by dsimp only;omega⟩
  refine (Zq i4 60).bind λr1 ⟨_,h1⟩=>?_;refine (Zq h1 _).bind λr2 ⟨_,h2⟩=>?_;refine (Zq h2 30).bind λr3 ⟨_,h3⟩=>?_;refine .at i0 hp λx _ _=>?_;repeat' first
   | exact nx _ _ _ (by omega) (by omega) (by assumption)
   | exact nx _ _ _ (by first | omega | (simp only[Ue,Ud,Uc];omega)) (by first | omega | (simp only[Ue,Ud,Uc];omega)) (by assumption)
   | split
   | refine Gets.guard (by simp only[Ue,Ud,Uc];omega) ?_
   | refine (Zq (by assumption) _).bind λ_ ⟨_,_⟩=>?_
 ·refine (Zq i4 3).bind λr ⟨⟨a,b⟩,h1⟩=>?_
  exact Zpb hD hc0 hc1 hcn (by omega) (by omega) a (by omega) h1 (λr hr=>hQ r hr)
theorem ZoR {D:Zi×Zc} (hD:ZkO D.1) {P:List Zx} (hP:P.length<=78) (hP2:(KB (Kq D.1)).length<=P.length) {A:Int×Zc}
  {s:Zc} (hs:Src s) :
  Gets (Zr (λv=>Q5 D P A v.1 v.2.1 v.2.2.1 v.2.2.2.1 v.2.2.2.2.1) ((0:Int),s.fst,s.snd.fst,s.snd.snd.fst,([]:List Zd),())) ZlB:=by
 refine Gets.loop (λv:Zhs=>0<=v.1/\v.1<=7/\(v.2.2.2.2.1.length:Int)=v.1/\(∀ c∈v.2.2.2.2.1,Zdr c)/\Src (v.2.1,v.2.2.1,v.2.2.2.1,())) (λv=>(7-v.1).toNat)
  ⟨by dsimp only;omega,by dsimp only;omega,rfl,λx hx=>(by cases hx),hs⟩ ?_
 rintro ⟨p,c0,c1,c2,cs,⟨⟩⟩ ⟨i0,i1,i2,i3,i4⟩;dsimp only at i0 i1 i2 i3 i4;show Gets (Q5 D P A p c0 c1 c2 cs) _;unfold Q5;have en:Wq (p+1)=p+1:=Xa (by omega) (by omega);simp only[en];split
 ·rename_i hp
  have hp7:p<7:=by simp only[Ud,Uc] at hp;omega
  refine .at i0 hp λx hx _=>?_;have hxn:Zdr x:=by
   rw[UO] at hx;rw[hx];show 4<=4;omega
  have nx:∀ (c:Zd) (t:Zc),Zdr c->Src t->Gets (some (.inl (p+1,t.fst,t.snd.fst,t.snd.snd.fst,([]:List Zd)++cs++[c],()):Zhs ⊕ (Zi×Zh×Zc)))
    (Rnd (λv:Zhs=>0<=v.1/\v.1<=7/\(v.2.2.2.2.1.length:Int)=v.1/\(∀ c∈v.2.2.2.2.1,Zdr c)/\Src (v.2.1,v.2.2.1,v.2.2.2.1,())) (λv=>(7-v.1).toNat) (7-p).toNat ZlB):=λc t hc ht =>
   .ret ⟨⟨by dsimp only;omega,by dsimp only;omega,by dsimp only;simp only[Ue,Ud,Uc];omega,Y9 (by rw[Uv];exact i3) hc,ht⟩,by dsimp only;omega⟩
  split
  ·refine (Zq i4 _).bind λr ⟨_,h1⟩=>?_
   refine .guard (by simp only[Ue,Ud,Uc];omega) ?_;refine .guard (by simp only[Ue,Ud,Uc];omega) ?_;exact nx _ _ hxn h1
  ·refine .guard (by simp only[Ue,Ud,Uc];omega) ?_
   refine .guard (by simp only[Ue,Ud,Uc];omega) ?_;exact nx _ (c0,c1,c2,()) hxn i4
 ·rename_i hp
  simp only[Ud,Uc] at hp;exact Zpf hD hP hP2 (by omega) (by omega) i3 (s:=(c0,c1,c2,())) i4 (λr hr=>hr)
theorem Zpc {D:Zi×Zc} (hD:ZkO D.1) {P:List Zx} {cs:List Zd} (hc0:1<=cs.length) (hc1:cs.length<=7) (hcn:∀ c∈cs,Zdr c) {ins outs:List Zb} (hi:ins.length<=100) (ho:outs.length<=100)
  {n:Int} (n0:0<=n) (n1:n<=3) {s:Zc} (hs:Src s) {Q:Zkj ⊕ (Zhs ⊕ (Zi×Zh×Zc))->Prop} (hQ:∀ r,ZlB r->Q (.inr (.inr r))) :
  Gets (Zr (λv=>Jk D P cs ins outs v.1 v.2.1 v.2.2.1 v.2.2.2.1 v.2.2.2.2.1) (([]:List Zk),n,s.fst,s.snd.fst,s.snd.snd.fst,())) Q:=by
 refine Gets.loop (λv:Zow=>0<=v.2.1/\v.2.1<=3/\(v.1.length:Int)+v.2.1<=3/\(∀ e∈v.1,ZjZ e)/\Src (v.2.2.1,v.2.2.2.1,v.2.2.2.2.1,())) (λv=>v.2.1.toNat) ⟨n0,n1,by dsimp only[List.length_nil];omega,λx hx=>(by cases hx),hs⟩ ?_;rintro ⟨l,k,c0,c1,c2,⟨⟩⟩ ⟨i0,i1,i2,i3,i4⟩;dsimp only at i0 i1 i2 i3 i4;show Gets (Jk D P cs ins outs l k c0 c1 c2) _;unfold Jk;have en:Wq (k-1)=k-1:=Xa (by omega) (by omega);simp only[en];split
 ·have nx:∀ (e:Zk) (t:Zc),ZjZ e->Src t->Gets (some (.inl (l++[e],k-1,t.fst,t.snd.fst,t.snd.snd.fst,()):Zow ⊕ (Zkj ⊕ (Zhs ⊕ (Zi×Zh×Zc)))))
    (Rnd (λv:Zow=>0<=v.2.1/\v.2.1<=3/\(v.1.length:Int)+v.2.1<=3/\(∀ e∈v.1,ZjZ e)/\Src (v.2.2.1,v.2.2.2.1,v.2.2.2.2.1,())) (λv=>v.2.1.toNat) k.toNat Q):=λe t he ht =>
   .ret ⟨⟨by dsimp only;omega,by dsimp only;omega,by dsimp only;simp only[Ue,Ud,Uc];omega,Y9 i3 he,ht⟩,by dsimp only;omega⟩
  have d0:∀ a b:Int,ZjZ ((a,b,([]:List Int),([]:List Int),([]:List Int),()):Zk):=λa b=>⟨UE _,UE _,UE _⟩;have d1:∀ a b c:Int,ZjZ ((a,b,([]:List Int),([]:List Int),[c],()):Zk):=λa b c=>⟨UE _,UE _,UF _⟩;repeat' first
   | exact nx _ _ (d0 _ _) (by assumption)
   | exact nx _ _ (d1 _ _ _) (by assumption)
   | split
   | refine Gets.guard (by simp only[Ue,Ud,Uc];omega) ?_
   | refine (Zq (by assumption) _).bind λ_ ⟨_,_⟩=>?_
 ·refine (Zq i4 2).bind λr ⟨_,h1⟩=>?_
  have hl:l.length<=100:=by omega
  split
  ·refine .ret (hQ _ ⟨hD,⟨hc0,hc1,hcn,hi,ho,hl,i3,?_,?_,Y9 ZcD ?_⟩,h1⟩)
   ·show 1<=([_]++[_]).length;simp
   ·show ([_]++[_]).length<=2;simp
   ·show 4<=4;omega
  ·exact .ret (hQ _ ⟨hD,⟨hc0,hc1,hcn,hi,ho,hl,i3,UF _,by show 1<=2;omega,ZcD⟩,h1⟩)
theorem Zpg {D:Zi×Zc} (hD:ZkO D.1) {P:List Zx} (hP:P.length<=78) (hP2:(KB (Kq D.1)).length<=P.length) {A:List Zd×Zc} {cs:List Zd} (hc0:1<=cs.length) (hc1:cs.length<=7) (hcn:∀ c∈cs,Zdr c)
  {s:Zc} (hs:Src s) {Q:Zhs ⊕ (Zi×Zh×Zc)->Prop} (hQ:∀ r,ZlB r->Q (.inr r)) :
  Gets (Zr (λv=>Jl D P A cs v.1 v.2.1 v.2.2.1 v.2.2.2.1 v.2.2.2.2.1 v.2.2.2.2.2.1) (([]:List Zb),([]:List Zb),Wq ((P.length:Int)-((KB (Kq D.1)).length:Int)),s.fst,s.snd.fst,s.snd.snd.fst,())) Q:=by
 rw[Xa (n:=(P.length:Int)-((KB (Kq D.1)).length:Int)) (by omega) (by omega)];refine Gets.loop (λv:Zkj=>0<=v.2.2.1/\v.2.2.1<=(P.length:Int)/\(v.1.length:Int)<=v.2.2.1/\(v.2.1.length:Int)<=v.2.2.1/\Src (v.2.2.2.1,v.2.2.2.2.1,v.2.2.2.2.2.1,())) (λv=>(100-v.2.2.1).toNat)
  ⟨by dsimp only;omega,by dsimp only;omega,by dsimp only[List.length_nil];omega,by dsimp only[List.length_nil];omega,hs⟩ ?_
 rintro ⟨ins,outs,p,c0,c1,c2,⟨⟩⟩ ⟨i0,i1,i2,i3,i4⟩;dsimp only at i0 i1 i2 i3 i4;show Gets (Jl D P A cs ins outs p c0 c1 c2) _;unfold Jl;have en:Wq (p+1)=p+1:=Xa (by omega) (by omega);simp only[en];split
 ·rename_i hp
  have nx:∀ (a b:List Zb) (t:Zc),(a.length:Int)<=p+1->(b.length:Int)<=p+1->Src t->Gets (some (.inl (a,b,p+1,t.fst,t.snd.fst,t.snd.snd.fst,()):Zkj ⊕ (Zhs ⊕ (Zi×Zh×Zc))))
    (Rnd (λv:Zkj=>0<=v.2.2.1/\v.2.2.1<=(P.length:Int)/\(v.1.length:Int)<=v.2.2.1/\(v.2.1.length:Int)<=v.2.2.1/\Src (v.2.2.2.1,v.2.2.2.2.1,v.2.2.2.2.2.1,())) (λv=>(100-v.2.2.1).toNat) (100-p).toNat Q):=λa b t ha hb ht =>
   .ret ⟨⟨by dsimp only;omega,by dsimp only;omega,ha,hb,ht⟩,by dsimp only;omega⟩
  refine (Zq i4 60).bind λr1 ⟨_,h1⟩=>?_;refine (Zq h1 _).bind λr2 ⟨_,h2⟩=>?_;refine (Zq h2 30).bind λr3 ⟨_,h3⟩=>?_;refine .at i0 hp λx _ _=>?_;repeat' first
   | exact nx _ _ _ (by omega) (by omega) (by assumption)
   | exact nx _ _ _ (by first | omega | (simp only[Ue,Ud,Uc];omega)) (by first | omega | (simp only[Ue,Ud,Uc];omega)) (by assumption)
   | split
   | refine Gets.guard (by simp only[Ue,Ud,Uc];omega) ?_
   | refine (Zq (by assumption) _).bind λ_ ⟨_,_⟩=>?_
 ·refine (Zq i4 3).bind λr ⟨⟨a,b⟩,h1⟩=>?_
  exact Zpc hD hc0 hc1 hcn (by omega) (by omega) a (by omega) h1 (λr hr=>hQ r hr)
theorem ZoS {D:Zi×Zc} (hD:ZkO D.1) {P:List Zx} (hP:P.length<=78) (hP2:(KB (Kq D.1)).length<=P.length) {A:List Zd×Zc} (hA:1<=A.1.length/\A.1.length<=7) (hAn:∀ c∈A.1,Zdr c)
  {s:Zc} (hs:Src s) :
  Gets (Zr (λv=>Jm D P A v.1 v.2.1 v.2.2.1 v.2.2.2.1 v.2.2.2.2.1) ((0:Int),s.fst,s.snd.fst,s.snd.snd.fst,([]:List Zd),())) ZlB:=by
 refine Gets.loop (λv:Zhs=>0<=v.1/\v.1<=7/\(v.2.2.2.2.1.length:Int)=v.1/\(∀ c∈v.2.2.2.2.1,Zdr c)/\Src (v.2.1,v.2.2.1,v.2.2.2.1,())) (λv=>(7-v.1).toNat)
  ⟨by dsimp only;omega,by dsimp only;omega,rfl,λx hx=>(by cases hx),hs⟩ ?_
 rintro ⟨p,c0,c1,c2,cs,⟨⟩⟩ ⟨i0,i1,i2,i3,i4⟩;dsimp only at i0 i1 i2 i3 i4;show Gets (Jm D P A p c0 c1 c2 cs) _;unfold Jm;have en:Wq (p+1)=p+1:=Xa (by omega) (by omega);simp only[en];split
 ·rename_i hp
  have hp7:p<7:=by omega
  refine .at i0 hp λx hx _=>?_;have hxn:Zdr x:=hAn x hx;have nx:∀ (c:Zd) (t:Zc),Zdr c->Src t->Gets (some (.inl (p+1,t.fst,t.snd.fst,t.snd.snd.fst,([]:List Zd)++cs++[c],()):Zhs ⊕ (Zi×Zh×Zc)))
    (Rnd (λv:Zhs=>0<=v.1/\v.1<=7/\(v.2.2.2.2.1.length:Int)=v.1/\(∀ c∈v.2.2.2.2.1,Zdr c)/\Src (v.2.1,v.2.2.1,v.2.2.2.1,())) (λv=>(7-v.1).toNat) (7-p).toNat ZlB):=λc t hc ht =>
   .ret ⟨⟨by dsimp only;omega,by dsimp only;omega,by dsimp only;simp only[Ue,Ud,Uc];omega,Y9 (by rw[Uv];exact i3) hc,ht⟩,by dsimp only;omega⟩
  split
  ·refine (Zq i4 _).bind λr ⟨_,h1⟩=>?_
   refine .guard (by simp only[Ue,Ud,Uc];omega) ?_;refine .guard (by simp only[Ue,Ud,Uc];omega) ?_;exact nx _ _ hxn h1
  ·refine .guard (by simp only[Ue,Ud,Uc];omega) ?_
   refine .guard (by simp only[Ue,Ud,Uc];omega) ?_;exact nx _ (c0,c1,c2,()) hxn i4
 ·rename_i hp
  exact Zpg hD hP hP2 (by omega) (by omega) i3 (s:=(c0,c1,c2,())) i4 (λr hr=>hr)
theorem Zpd {D:Zi×Zc} (hD:ZkO D.1) {P:List Zx} {cs:List Zd} (hc0:1<=cs.length) (hc1:cs.length<=7) (hcn:∀ c∈cs,Zdr c) {ins outs:List Zb} (hi:ins.length<=100) (ho:outs.length<=100)
  {n:Int} (n0:0<=n) (n1:n<=3) {s:Zc} (hs:Src s) {Q:Zkj ⊕ (Zhs ⊕ (Zi×Zh×Zc))->Prop} (hQ:∀ r,ZlB r->Q (.inr (.inr r))) :
  Gets (Zr (λv=>Jo D P cs ins outs v.1 v.2.1 v.2.2.1 v.2.2.2.1 v.2.2.2.2.1) (([]:List Zk),n,s.fst,s.snd.fst,s.snd.snd.fst,())) Q:=by
 refine Gets.loop (λv:Zow=>0<=v.2.1/\v.2.1<=3/\(v.1.length:Int)+v.2.1<=3/\(∀ e∈v.1,ZjZ e)/\Src (v.2.2.1,v.2.2.2.1,v.2.2.2.2.1,())) (λv=>v.2.1.toNat) ⟨n0,n1,by dsimp only[List.length_nil];omega,λx hx=>(by cases hx),hs⟩ ?_;rintro ⟨l,k,c0,c1,c2,⟨⟩⟩ ⟨i0,i1,i2,i3,i4⟩;dsimp only at i0 i1 i2 i3 i4;show Gets (Jo D P cs ins outs l k c0 c1 c2) _;unfold Jo;have en:Wq (k-1)=k-1:=Xa (by omega) (by omega);simp only[en];split
 ·have nx:∀ (e:Zk) (t:Zc),ZjZ e->Src t->Gets (some (.inl (l++[e],k-1,t.fst,t.snd.fst,t.snd.snd.fst,()):Zow ⊕ (Zkj ⊕ (Zhs ⊕ (Zi×Zh×Zc)))))
    (Rnd (λv:Zow=>0<=v.2.1/\v.2.1<=3/\(v.1.length:Int)+v.2.1<=3/\(∀ e∈v.1,ZjZ e)/\Src (v.2.2.1,v.2.2.2.1,v.2.2.2.2.1,())) (λv=>v.2.1.toNat) k.toNat Q):=λe t he ht =>
   .ret ⟨⟨by dsimp only;omega,by dsimp only;omega,by dsimp only;simp only[Ue,Ud,Uc];omega,Y9 i3 he,ht⟩,by dsimp only;omega⟩
  have d0:∀ a b:Int,ZjZ ((a,b,([]:List Int),([]:List Int),([]:List Int),()):Zk):=λa b=>⟨UE _,UE _,UE _⟩;have d1:∀ a b c:Int,ZjZ ((a,b,([]:List Int),([]:List Int),[c],()):Zk):=λa b c=>⟨UE _,UE _,UF _⟩;repeat' first
   | exact nx _ _ (d0 _ _) (by assumption)
   | exact nx _ _ (d1 _ _ _) (by assumption)
   | split
   | refine Gets.guard (by simp only[Ue,Ud,Uc];omega) ?_
   | refine (Zq (by assumption) _).bind λ_ ⟨_,_⟩=>?_
 ·refine (Zq i4 2).bind λr ⟨_,h1⟩=>?_
  have hl:l.length<=100:=by omega
  split
  ·refine .ret (hQ _ ⟨hD,⟨hc0,hc1,hcn,hi,ho,hl,i3,?_,?_,Y9 ZcD ?_⟩,h1⟩)
   ·show 1<=([_]++[_]).length;simp
   ·show ([_]++[_]).length<=2;simp
   ·show 4<=4;omega
  ·exact .ret (hQ _ ⟨hD,⟨hc0,hc1,hcn,hi,ho,hl,i3,UF _,by show 1<=2;omega,ZcD⟩,h1⟩)
theorem Zph {D:Zi×Zc} (hD:ZkO D.1) {P:List Zx} (hP:P.length<=78) (hP2:(KB (Kq D.1)).length<=P.length) {A:Int×Zc} {cs:List Zd} (hc0:1<=cs.length) (hc1:cs.length<=7) (hcn:∀ c∈cs,Zdr c)
  {s:Zc} (hs:Src s) {Q:Zhs ⊕ (Zi×Zh×Zc)->Prop} (hQ:∀ r,ZlB r->Q (.inr r)) :
  Gets (Zr (λv=>Jp D P A cs v.1 v.2.1 v.2.2.1 v.2.2.2.1 v.2.2.2.2.1 v.2.2.2.2.2.1) (([]:List Zb),([]:List Zb),Wq ((P.length:Int)-((KB (Kq D.1)).length:Int)),s.fst,s.snd.fst,s.snd.snd.fst,())) Q:=by
 rw[Xa (n:=(P.length:Int)-((KB (Kq D.1)).length:Int)) (by omega) (by omega)];refine Gets.loop (λv:Zkj=>0<=v.2.2.1/\v.2.2.1<=(P.length:Int)/\(v.1.length:Int)<=v.2.2.1/\(v.2.1.length:Int)<=v.2.2.1/\Src (v.2.2.2.1,v.2.2.2.2.1,v.2.2.2.2.2.1,())) (λv=>(100-v.2.2.1).toNat)
  ⟨by dsimp only;omega,by dsimp only;omega,by dsimp only[List.length_nil];omega,by dsimp only[List.length_nil];omega,hs⟩ ?_
 rintro ⟨ins,outs,p,c0,c1,c2,⟨⟩⟩ ⟨i0,i1,i2,i3,i4⟩;dsimp only at i0 i1 i2 i3 i4;show Gets (Jp D P A cs ins outs p c0 c1 c2) _;unfold Jp;have en:Wq (p+1)=p+1:=Xa (by omega) (by omega);simp only[en];split
 ·rename_i hp
  have nx:∀ (a b:List Zb) (t:Zc),(a.length:Int)<=p+1->(b.length:Int)<=p+1->Src t->Gets (some (.inl (a,b,p+1,t.fst,t.snd.fst,t.snd.snd.fst,()):Zkj ⊕ (Zhs ⊕ (Zi×Zh×Zc))))
    (Rnd (λv:Zkj=>0<=v.2.2.1/\v.2.2.1<=(P.length:Int)/\(v.1.length:Int)<=v.2.2.1/\(v.2.1.length:Int)<=v.2.2.1/\Src (v.2.2.2.1,v.2.2.2.2.1,v.2.2.2.2.2.1,())) (λv=>(100-v.2.2.1).toNat) (100-p).toNat Q):=λa b t ha hb ht =>
   .ret ⟨⟨by dsimp only;omega,by dsimp only;omega,ha,hb,ht⟩,by dsimp only;omega⟩
  refine (Zq i4 60).bind λr1 ⟨_,h1⟩=>?_;refine (Zq h1 _).bind λr2 ⟨_,h2⟩=>?_;refine (Zq h2 30).bind λr3 ⟨_,h3⟩=>?_;refine .at i0 hp λx _ _=>?_;repeat' first
   | exact nx _ _ _ (by omega) (by omega) (by assumption)
   | exact nx _ _ _ (by first | omega | (simp only[Ue,Ud,Uc];omega)) (by first | omega | (simp only[Ue,Ud,Uc];omega)) (by assumption)
   | split
   | refine Gets.guard (by simp only[Ue,Ud,Uc];omega) ?_
   | refine (Zq (by assumption) _).bind λ_ ⟨_,_⟩=>?_
 ·refine (Zq i4 3).bind λr ⟨⟨a,b⟩,h1⟩=>?_
  exact Zpd hD hc0 hc1 hcn (by omega) (by omega) a (by omega) h1 (λr hr=>hQ r hr)
theorem ZoT {D:Zi×Zc} (hD:ZkO D.1) {P:List Zx} (hP:P.length<=78) (hP2:(KB (Kq D.1)).length<=P.length) {A:Int×Zc}
  {s:Zc} (hs:Src s) :
  Gets (Zr (λv=>Q6 D P A v.1 v.2.1 v.2.2.1 v.2.2.2.1 v.2.2.2.2.1) ((0:Int),s.fst,s.snd.fst,s.snd.snd.fst,([]:List Zd),())) ZlB:=by
 refine Gets.loop (λv:Zhs=>0<=v.1/\v.1<=7/\(v.2.2.2.2.1.length:Int)=v.1/\(∀ c∈v.2.2.2.2.1,Zdr c)/\Src (v.2.1,v.2.2.1,v.2.2.2.1,())) (λv=>(7-v.1).toNat)
  ⟨by dsimp only;omega,by dsimp only;omega,rfl,λx hx=>(by cases hx),hs⟩ ?_
 rintro ⟨p,c0,c1,c2,cs,⟨⟩⟩ ⟨i0,i1,i2,i3,i4⟩;dsimp only at i0 i1 i2 i3 i4;show Gets (Q6 D P A p c0 c1 c2 cs) _;unfold Q6;have en:Wq (p+1)=p+1:=Xa (by omega) (by omega);simp only[en];split
 ·rename_i hp
  have hp7:p<7:=by simp only[Ud,Uc] at hp;omega
  refine .at i0 hp λx hx _=>?_;have hxn:Zdr x:=by
   rw[UO] at hx;rw[hx];show 4<=4;omega
  have nx:∀ (c:Zd) (t:Zc),Zdr c->Src t->Gets (some (.inl (p+1,t.fst,t.snd.fst,t.snd.snd.fst,([]:List Zd)++cs++[c],()):Zhs ⊕ (Zi×Zh×Zc)))
    (Rnd (λv:Zhs=>0<=v.1/\v.1<=7/\(v.2.2.2.2.1.length:Int)=v.1/\(∀ c∈v.2.2.2.2.1,Zdr c)/\Src (v.2.1,v.2.2.1,v.2.2.2.1,())) (λv=>(7-v.1).toNat) (7-p).toNat ZlB):=λc t hc ht =>
   .ret ⟨⟨by dsimp only;omega,by dsimp only;omega,by dsimp only;simp only[Ue,Ud,Uc];omega,Y9 (by rw[Uv];exact i3) hc,ht⟩,by dsimp only;omega⟩
  split
  ·refine (Zq i4 _).bind λr ⟨_,h1⟩=>?_
   refine .guard (by simp only[Ue,Ud,Uc];omega) ?_;refine .guard (by simp only[Ue,Ud,Uc];omega) ?_;exact nx _ _ hxn h1
  ·refine .guard (by simp only[Ue,Ud,Uc];omega) ?_
   refine .guard (by simp only[Ue,Ud,Uc];omega) ?_;exact nx _ (c0,c1,c2,()) hxn i4
 ·rename_i hp
  simp only[Ud,Uc] at hp;exact Zph hD hP hP2 (by omega) (by omega) i3 (s:=(c0,c1,c2,())) i4 (λr hr=>hr)
theorem Zpe {D:Zi×Zc} (hD:ZkO D.1) {P:List Zx} {cs:List Zd} (hc0:1<=cs.length) (hc1:cs.length<=7) (hcn:∀ c∈cs,Zdr c) {ins outs:List Zb} (hi:ins.length<=100) (ho:outs.length<=100)
  {n:Int} (n0:0<=n) (n1:n<=3) {s:Zc} (hs:Src s) {Q:Zkj ⊕ (Zhs ⊕ (Zi×Zh×Zc))->Prop} (hQ:∀ r,ZlB r->Q (.inr (.inr r))) :
  Gets (Zr (λv=>Jq D P cs ins outs v.1 v.2.1 v.2.2.1 v.2.2.2.1 v.2.2.2.2.1) (([]:List Zk),n,s.fst,s.snd.fst,s.snd.snd.fst,())) Q:=by
 refine Gets.loop (λv:Zow=>0<=v.2.1/\v.2.1<=3/\(v.1.length:Int)+v.2.1<=3/\(∀ e∈v.1,ZjZ e)/\Src (v.2.2.1,v.2.2.2.1,v.2.2.2.2.1,())) (λv=>v.2.1.toNat) ⟨n0,n1,by dsimp only[List.length_nil];omega,λx hx=>(by cases hx),hs⟩ ?_;rintro ⟨l,k,c0,c1,c2,⟨⟩⟩ ⟨i0,i1,i2,i3,i4⟩;dsimp only at i0 i1 i2 i3 i4;show Gets (Jq D P cs ins outs l k c0 c1 c2) _;unfold Jq;have en:Wq (k-1)=k-1:=Xa (by omega) (by omega);simp only[en];split
 ·have nx:∀ (e:Zk) (t:Zc),ZjZ e->Src t->Gets (some (.inl (l++[e],k-1,t.fst,t.snd.fst,t.snd.snd.fst,()):Zow ⊕ (Zkj ⊕ (Zhs ⊕ (Zi×Zh×Zc)))))
    (Rnd (λv:Zow=>0<=v.2.1/\v.2.1<=3/\(v.1.length:Int)+v.2.1<=3/\(∀ e∈v.1,ZjZ e)/\Src (v.2.2.1,v.2.2.2.1,v.2.2.2.2.1,())) (λv=>v.2.1.toNat) k.toNat Q):=λe t he ht =>
   .ret ⟨⟨by dsimp only;omega,by dsimp only;omega,by dsimp only;simp only[Ue,Ud,Uc];omega,Y9 i3 he,ht⟩,by dsimp only;omega⟩
  have d0:∀ a b:Int,ZjZ ((a,b,([]:List Int),([]:List Int),([]:List Int),()):Zk):=λa b=>⟨UE _,UE _,UE _⟩;have d1:∀ a b c:Int,ZjZ ((a,b,([]:List Int),([]:List Int),[c],()):Zk):=λa b c=>⟨UE _,UE _,UF _⟩;repeat' first
   | exact nx _ _ (d0 _ _) (by assumption)
   | exact nx _ _ (d1 _ _ _) (by assumption)
   | split
   | refine Gets.guard (by simp only[Ue,Ud,Uc];omega) ?_
   | refine (Zq (by assumption) _).bind λ_ ⟨_,_⟩=>?_
 ·refine (Zq i4 2).bind λr ⟨_,h1⟩=>?_
  have hl:l.length<=100:=by omega
  split
  ·refine .ret (hQ _ ⟨hD,⟨hc0,hc1,hcn,hi,ho,hl,i3,?_,?_,Y9 ZcD ?_⟩,h1⟩)
   ·show 1<=([_]++[_]).length;simp
   ·show ([_]++[_]).length<=2;simp
   ·show 4<=4;omega
  ·exact .ret (hQ _ ⟨hD,⟨hc0,hc1,hcn,hi,ho,hl,i3,UF _,by show 1<=2;omega,ZcD⟩,h1⟩)
theorem Zpi {D:Zi×Zc} (hD:ZkO D.1) {P:List Zx} (hP:P.length<=78) (hP2:(KB (Kq D.1)).length<=P.length) {A:List Zd×Zc} {cs:List Zd} (hc0:1<=cs.length) (hc1:cs.length<=7) (hcn:∀ c∈cs,Zdr c)
  {s:Zc} (hs:Src s) {Q:Zhs ⊕ (Zi×Zh×Zc)->Prop} (hQ:∀ r,ZlB r->Q (.inr r)) :
  Gets (Zr (λv=>VO D P A cs v.1 v.2.1 v.2.2.1 v.2.2.2.1 v.2.2.2.2.1 v.2.2.2.2.2.1) (([]:List Zb),([]:List Zb),Wq ((P.length:Int)-((KB (Kq D.1)).length:Int)),s.fst,s.snd.fst,s.snd.snd.fst,())) Q:=by
 rw[Xa (n:=(P.length:Int)-((KB (Kq D.1)).length:Int)) (by omega) (by omega)];refine Gets.loop (λv:Zkj=>0<=v.2.2.1/\v.2.2.1<=(P.length:Int)/\(v.1.length:Int)<=v.2.2.1/\(v.2.1.length:Int)<=v.2.2.1/\Src (v.2.2.2.1,v.2.2.2.2.1,v.2.2.2.2.2.1,())) (λv=>(100-v.2.2.1).toNat)
  ⟨by dsimp only;omega,by dsimp only;omega,by dsimp only[List.length_nil];omega,by dsimp only[List.length_nil];omega,hs⟩ ?_
 rintro ⟨ins,outs,p,c0,c1,c2,⟨⟩⟩ ⟨i0,i1,i2,i3,i4⟩;dsimp only at i0 i1 i2 i3 i4;show Gets (VO D P A cs ins outs p c0 c1 c2) _;unfold VO;have en:Wq (p+1)=p+1:=Xa (by omega) (by omega);simp only[en];split
 ·rename_i hp
  have nx:∀ (a b:List Zb) (t:Zc),(a.length:Int)<=p+1->(b.length:Int)<=p+1->Src t->Gets (some (.inl (a,b,p+1,t.fst,t.snd.fst,t.snd.snd.fst,()):Zkj ⊕ (Zhs ⊕ (Zi×Zh×Zc))))
    (Rnd (λv:Zkj=>0<=v.2.2.1/\v.2.2.1<=(P.length:Int)/\(v.1.length:Int)<=v.2.2.1/\(v.2.1.length:Int)<=v.2.2.1/\Src (v.2.2.2.1,v.2.2.2.2.1,v.2.2.2.2.2.1,())) (λv=>(100-v.2.2.1).toNat) (100-p).toNat Q):=λa b t ha hb ht =>
   .ret ⟨⟨by dsimp only;omega,by dsimp only;omega,ha,hb,ht⟩,by dsimp only;omega⟩
  refine (Zq i4 60).bind λr1 ⟨_,h1⟩=>?_;refine (Zq h1 _).bind λr2 ⟨_,h2⟩=>?_;refine (Zq h2 30).bind λr3 ⟨_,h3⟩=>?_;refine .at i0 hp λx _ _=>?_;repeat' first
   | exact nx _ _ _ (by omega) (by omega) (by assumption)
   | exact nx _ _ _ (by first | omega | (simp only[Ue,Ud,Uc];omega)) (by first | omega | (simp only[Ue,Ud,Uc];omega)) (by assumption)
   | split
   | refine Gets.guard (by simp only[Ue,Ud,Uc];omega) ?_
   | refine (Zq (by assumption) _).bind λ_ ⟨_,_⟩=>?_
 ·refine (Zq i4 3).bind λr ⟨⟨a,b⟩,h1⟩=>?_
  exact Zpe hD hc0 hc1 hcn (by omega) (by omega) a (by omega) h1 (λr hr=>hQ r hr)
theorem ZoU {D:Zi×Zc} (hD:ZkO D.1) {P:List Zx} (hP:P.length<=78) (hP2:(KB (Kq D.1)).length<=P.length) {A:List Zd×Zc} (hA:1<=A.1.length/\A.1.length<=7) (hAn:∀ c∈A.1,Zdr c)
  {s:Zc} (hs:Src s) :
  Gets (Zr (λv=>VP D P A v.1 v.2.1 v.2.2.1 v.2.2.2.1 v.2.2.2.2.1) ((0:Int),s.fst,s.snd.fst,s.snd.snd.fst,([]:List Zd),())) ZlB:=by
 refine Gets.loop (λv:Zhs=>0<=v.1/\v.1<=7/\(v.2.2.2.2.1.length:Int)=v.1/\(∀ c∈v.2.2.2.2.1,Zdr c)/\Src (v.2.1,v.2.2.1,v.2.2.2.1,())) (λv=>(7-v.1).toNat)
  ⟨by dsimp only;omega,by dsimp only;omega,rfl,λx hx=>(by cases hx),hs⟩ ?_
 rintro ⟨p,c0,c1,c2,cs,⟨⟩⟩ ⟨i0,i1,i2,i3,i4⟩;dsimp only at i0 i1 i2 i3 i4;show Gets (VP D P A p c0 c1 c2 cs) _;unfold VP;have en:Wq (p+1)=p+1:=Xa (by omega) (by omega);simp only[en];split
 ·rename_i hp
  have hp7:p<7:=by omega
  refine .at i0 hp λx hx _=>?_;have hxn:Zdr x:=hAn x hx;have nx:∀ (c:Zd) (t:Zc),Zdr c->Src t->Gets (some (.inl (p+1,t.fst,t.snd.fst,t.snd.snd.fst,([]:List Zd)++cs++[c],()):Zhs ⊕ (Zi×Zh×Zc)))
    (Rnd (λv:Zhs=>0<=v.1/\v.1<=7/\(v.2.2.2.2.1.length:Int)=v.1/\(∀ c∈v.2.2.2.2.1,Zdr c)/\Src (v.2.1,v.2.2.1,v.2.2.2.1,())) (λv=>(7-v.1).toNat) (7-p).toNat ZlB):=λc t hc ht =>
   .ret ⟨⟨by dsimp only;omega,by dsimp only;omega,by dsimp only;simp only[Ue,Ud,Uc];omega,Y9 (by rw[Uv];exact i3) hc,ht⟩,by dsimp only;omega⟩
  split
  ·refine (Zq i4 _).bind λr ⟨_,h1⟩=>?_
   refine .guard (by simp only[Ue,Ud,Uc];omega) ?_;refine .guard (by simp only[Ue,Ud,Uc];omega) ?_;exact nx _ _ hxn h1
  ·refine .guard (by simp only[Ue,Ud,Uc];omega) ?_
   refine .guard (by simp only[Ue,Ud,Uc];omega) ?_;exact nx _ (c0,c1,c2,()) hxn i4
 ·rename_i hp
  exact Zpi hD hP hP2 (by omega) (by omega) i3 (s:=(c0,c1,c2,())) i4 (λr hr=>hr)
theorem Zon {s:Zc} (hs:Src s):Gets (ZdQ s) ZlB:=by
 unfold ZdQ;refine (Zkn hs (most:=4) (by omega) (by omega) _).bind λr0 ⟨b0,h0⟩=>?_;have pl:∀ {d:Zg},Zrz d->Xf d=some (places d)/\(places d).length<=78/\(KB d).length<=(places d).length:=λ{d} hd=>by
  refine ⟨Vs d hd.few,XQ hd.few,?_⟩;unfold places;rw[Ue];have:∀ (l:List YE) (m:Nat),(cat ZfU m l).length=l.length:=by
   intro l;induction l with
   | nil=>intro m;rfl
   | cons x r ih=>intro m;simp only[cat,Ue,ZfU,Ud,Uc,ih];omega
  rw[this];omega
 refine (Zq h0 6).bind λr1 ⟨_,h1⟩=>?_;split
 ·refine (Zkn h1 (most:=5) (by omega) (by omega) _).bind λr2 ⟨b2,h2⟩=>?_
  obtain ⟨e1,e2,e3⟩:=pl b2.des;refine (Gets.of (a:=places (Kq r2.1)) e1 rfl:Gets _ (λa=>a=places (Kq r2.1))).bind λP hP=>?_;subst hP;refine (Zi4 h2).bind λr3 ⟨⟨hl,hn⟩,h3⟩=>?_;split
  ·omega
  ·refine (Gets.of (ZcJ r3.1 (ZpO hn) (by omega)) trivial:Gets _ (λ_=>True)).bind λok _=>?_
   split
   ·exact ZoS b2 e2 e3 hl hn h3
   ·refine (Zq h3 400).bind λr4 ⟨_,h4⟩=>?_
    exact ZoR b2 e2 e3 h4
 ·obtain ⟨e1,e2,e3⟩:=pl b0.des
  refine (Gets.of (a:=places (Kq r0.1)) e1 rfl:Gets _ (λa=>a=places (Kq r0.1))).bind λP hP=>?_;subst hP;refine (Zi4 h1).bind λr3 ⟨⟨hl,hn⟩,h3⟩=>?_;split
  ·omega
  ·refine (Gets.of (ZcJ r3.1 (ZpO hn) (by omega)) trivial:Gets _ (λ_=>True)).bind λok _=>?_
   split
   ·exact ZoU b0 e2 e3 hl hn h3
   ·refine (Zq h3 400).bind λr4 ⟨_,h4⟩=>?_
    exact ZoT b0 e2 e3 h4
theorem ZkE {l:List Zb} (h:l.length<=1048576):sm (.sl Qy) l:=smL h (λ_ _=>⟨trivial,trivial,⟨trivial,trivial,trivial⟩,⟨trivial,trivial,trivial⟩,trivial⟩)
theorem Zp7 {l:List Zd} (h:l.length<=1048576) (h2:∀ c∈l,Zdr c):sm (.sl Jr) l:=smL h (λc hc=>by
 have:=h2 c hc;unfold Zdr at this;exact ⟨smS (by show (KQ c).length<=_;omega),trivial,trivial,trivial,trivial,trivial,trivial,trivial,trivial,trivial,trivial,trivial⟩)
theorem Zp9 {l:List Zk} (h:l.length<=1048576) (h2:∀ e∈l,ZjZ e):sm (.sl Qo) l:=smL h (λe he=>by
 obtain ⟨a,b,c⟩:=h2 e he;exact ⟨trivial,trivial,smI (by show (Gp e).length<=_;omega),smI (by show (Gn e).length<=_;omega),smI (by show (Gz e).length<=_;omega),trivial⟩)
theorem Zp8 {l:List ZB} (h:l.length<=1048576) (h2:∀ c∈l,(KW c).length<=4):sm (.sl Zaj) l:=smL h (λc hc=>by
 have:=h2 c hc;exact ⟨smS (by show (KW c).length<=_;omega),trivial,trivial,trivial,trivial,trivial⟩)
theorem Zqx {s:Zc} (hs:Src s):Gets (ZbL s) (λr=>ZkO r.1/\(sm ZbO r.2.1/\(Kt r.2.1).length<=7)/\Src r.2.2):=by
 unfold ZbL;refine (Zon hs).bind λr0 ⟨hb,hx,h0⟩=>?_;obtain ⟨c0,c1,cn,i1,o1,e1,ee,k0,k1,kn⟩:=hx;refine (Zq h0 24).bind λr1 ⟨_,h1⟩=>?_;have sC:=Zp7 (by omega) cn;have sI:=ZkE (l:=K1 r0.2.1) (by omega);have sO:=ZkE (l:=K8 r0.2.1) (by omega);have sE:=Zp9 (by omega) ee;have sK:=Zp8 (by omega) kn;have same:Gets (some (r0.1,r0.2.1,r1.2)) (λr=>ZkO r.1/\(sm ZbO r.2.1/\(Kt r.2.1).length<=7)/\Src r.2.2):=.ret ⟨hb,⟨⟨sC,sI,sO,sE,sK,trivial⟩,c1⟩,h1⟩;split
 ·refine (Zq h1 2).bind λr2 ⟨⟨a,b⟩,h2⟩=>?_
  refine .at a (by simp only[Ud,Uc];omega) λx _ _=>?_;refine .at (by omega) (by show (0:Int)<((Kt r0.2.1).length:Int);omega) λc hc _=>?_;refine .ret ⟨hb,⟨⟨Zp7 ?_ (ZkU cn (cn c hc)),sI,sO,sE,sK,trivial⟩,?_⟩,h2⟩
  ·show (List.set (Kt r0.2.1) _ _).length<=_
   rw[UT];omega
  ·show (List.set (Kt r0.2.1) _ _).length<=7
   rw[UT];exact c1
 split
 ·split
  ·rename_i hl
   refine (Zq h1 2).bind λr2 ⟨⟨a,b⟩,h2⟩=>?_;refine .at a (by simp only[Ud,Uc];omega) λx _ _=>?_;refine .at (by omega) hl λc hc _=>?_;refine .ret ⟨hb,⟨⟨sC,ZkE ?_,sO,sE,sK,trivial⟩,c1⟩,h2⟩;show (List.set (K1 r0.2.1) _ _).length<=_;rw[UT];omega
  ·exact same
 split
 ·split
  ·rename_i hl
   refine .at (by omega) hl λc hc _=>?_;refine .ret ⟨hb,⟨⟨sC,ZkE ?_,sO,sE,sK,trivial⟩,c1⟩,h1⟩;show (List.set (K1 r0.2.1) _ _).length<=_;rw[UT];omega
  ·exact same
 split
 ·split
  ·rename_i hl
   refine .at (by omega) hl λc hc _=>?_;refine .ret ⟨hb,⟨⟨sC,sI,ZkE ?_,sE,sK,trivial⟩,c1⟩,h1⟩;show (List.set (K8 r0.2.1) _ _).length<=_;rw[UT];omega
  ·exact same
 split
 ·refine .at (by omega) (by show (0:Int)<((Gr r0.2.1).length:Int);omega) λc hc _=>?_
  have hl:(Gr r0.2.1++[c]).length<=1048576:=by rw[Ue,UP];omega
  refine .guard (by show ((Gr r0.2.1).length+1)*48<=140737488355328;omega) (.ret ⟨hb,⟨⟨sC,sI,sO,sE,Zp8 hl (Y9 kn (kn c hc)),trivial⟩,c1⟩,h1⟩)
 split
 ·have hl:(KP r0.2.1++[((0:Int),(0:Int),([]:List Int),([]:List Int),([]:List Int),())]).length<=1048576:=by rw[Ue,UP];omega
  refine .guard (by show ((KP r0.2.1).length+1)*88<=140737488355328;omega) (.ret ⟨hb,⟨⟨sC,sI,sO,Zp9 hl (Y9 ee ⟨UE _,UE _,UE _⟩),sK,trivial⟩,c1⟩,h1⟩)
 split
 ·split
  ·rename_i hl
   refine .at (by omega) hl λc hc _=>?_;have hl2:(K1 r0.2.1++[c]).length<=1048576:=by rw[Ue,UP];omega
   refine .guard (by show ((K1 r0.2.1).length+1)*48<=140737488355328;omega) (.ret ⟨hb,⟨⟨sC,ZkE hl2,sO,sE,sK,trivial⟩,c1⟩,h1⟩)
  ·exact same
 split
 ·exact .ret ⟨hb,⟨⟨smL (by simp) (by simp),smL (by simp) (by simp),smL (by simp) (by simp),smL (by simp) (by simp),smL (by simp) (by simp),trivial⟩,by show 0<=7;omega⟩,h1⟩
 ·exact same
theorem ZfF {b:Zi} (h:ZlA b) (v:Yr) (hv:KG v=places (Kq b)) (l:List Yz) (hl:l.length<=1048576) (hT:ZcN l (Zm6 (2*((places (Kq b)).length:Int)) l)):Vk v l=some true:=by
 have hf:=h.ok.1.few;have hpl:=XQ hf;have hnode:∀ n,XV v n=some (tr (0<=n/\n<=2*((places (Kq b)).length:Int)-1)):=by
  intro n;unfold XV Zbh;rw[show YB (KG v)=some ((KG v).length:Int) from rfl,Bq,Bq,hv,Xa (n:=2*((places (Kq b)).length:Int)) (by omega) (by omega),Xa (by omega) (by omega)];exact Zax (YQ _ _ _)
 have htime:∀ s:ZC,(-1000000000<=KA s/\KA s<=1000000000)->(-1000000000<=KF s/\KF s<=1000000000)->ZcY s=some true:=λs h1 h2=>by
  unfold ZcY ZaC;rw[YQ,Yc h1,Bq,Bq,Uf rfl,YQ,Yc h2];rfl
 unfold Vk;refine YV l.length (λk s=>s=((k:Int),())) _ rfl ?_ ?_
 ·rintro k _ hk rfl
  have hx:l[k]?=some (l[k]'hk):=Ub _;generalize l[k]'hk=x at hx;obtain ⟨t1,t2,t3,t4⟩:=hT k x hx;refine .inl ⟨_,?_,rfl⟩;simp only[QJ,show (k:Int)<(l.length:Int) from by omega,Um,Zy,hx,Bq,hnode,Yc t1,htime _ t3 t4];by_cases hk0:(0:Int)<(k:Int)
  ·have hy:l[k-1]?=some l[k-1]:=Ub (by omega)
   have hy2:atI l ((k:Int)-1)=some l[k-1]:=Za5 (by omega) (by rw[<-hy];congr 1;omega);have:=t2 _ (by omega) hy;rw[Uf hk0,Xa (n:=(k:Int)-1) (by omega) (by omega),hy2,Bq,Ug (by omega),Vn (by omega)]
  ·rw[Ug hk0,Vn (by omega)]
 ·rintro _ rfl
  simp only[QJ,Uh,Uk]
theorem ZlL {code:List Int} (hc:∀ x∈code,0<=x/\x<=255) (hl:code.length<=4096):Gets (QY code) (λr=>ZkO r.1/\sm ZbO r.2):=by
 unfold QY;refine (Zpp hc hl).bind λs hs=>?_;refine (Zqx hs).bind λr ⟨hb,hx,_⟩=>?_;exact .ret ⟨hb,hx.1⟩
theorem ZeN (code:List Int) (hb:bnd (.sl (.int .u8)) code):Qt code=some true:=by
 unfold Qt Zla;rw[Bq];split
 ·rfl
 rename_i hbig;have hlen:code.length<=4096:=by
  simp only[Uq] at hbig;omega
 obtain ⟨⟨b,s⟩,hd,hB,hs⟩:=ZlL (λx hx=>hb.2 x hx) hlen;have hbs:=hB.sm;rw[hd,Bq];dsimp only;unfold ZbT ZbU;rw[Zjj b s hbs hs,Zfl b s hbs hs,Bq];by_cases h:ZkQ b s
 ·have hblk:ZlA b:=⟨h.1,hbs⟩
  have hpl:=XQ h.1.1.few;have e1:=ZhP h.2 (by omega);have e2:=Zjn h.2 (by omega);have e3:J6 b s=some (Zqa s,0):=by
   unfold J6;rw[Zfl b s hbs hs,Bq,Uf (Yc h),ZjP h.2 (by omega)];rfl
  have hsl:(Zqa s).length<=1048576:=by
   have hl:=len2 h.2 (by omega) (K1 s).length;rw[Ut] at hl;have:=(Zp3 s).len;have:(Zs6 s).length<=212:=hl;omega
  obtain ⟨t1,t2⟩:=Zor h.2 (by omega);have hol:=Znl h.2.2.2.2.1;obtain ⟨v,hv1,hv2,_⟩:=Zjy hblk;have e4:Zcd b (Zqa s)=some true:=by
   unfold Zcd;rw[Zdj b hbs,Bq,Uf (Yc h.1),hv1,Bq,Zg4 hblk v hv2 _ hsl,Yc (Zsq h.2)];rfl
  have e5:Zce b (targets s)=some true:=by
   unfold Zce;rw[Zdj b hbs,Bq,Uf (Yc h.1),hv1,Bq,ZfF hblk v hv2 _ (by omega) t1];rfl
  rw[Uf (Yc h),e1,Bq,Bq,Bq,Uf (Yc h),e2,Bq,Bq,Bq,Uf (Yc h),e3,Bq];dsimp only;rw[Uf rfl,Uf rfl,Uf rfl,e4,Bq,Uf rfl,Uf (by
   rw[show K8 s=s.2.2.1 from rfl] at t2 hol;rw[Xa (by omega) (by omega)];omega),e5]
  rfl
 ·rw[Ug (λq=>h ((XD _).1 q))]
  simp only[Bq];rw[Ug (λq=>h ((XD _).1 q))];simp only[Bq];rw[Ug (λq=>h ((XD _).1 q))];rfl
end Go.Proofs.YtmihfdfjccociaaGreatDoor
