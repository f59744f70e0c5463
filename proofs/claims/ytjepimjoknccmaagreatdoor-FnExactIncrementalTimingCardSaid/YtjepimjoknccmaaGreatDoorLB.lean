/-
  Plain laws: designs.
-/
import Derived.Test.YtjepimjoknccmaaGreatDoorLA
namespace Go.Proofs.YtjepimjoknccmaaGreatDoor
set_option linter.unusedVariables false
set_option linter.unusedSimpArgs false
open Go Go.Sx
theorem Zco {d:Zb} (h:sm Yi d):sm (.sl ZX) (K1 d)/\sm (.sl ZaB) (Ga d)/\sm (.sl .str) (K6 d):=by
 refine ⟨?_,?_,?_⟩
 ·first | exact h.1 | exact h.2.1 | exact h.2.2.1 | exact h.2.2.2.1
 ·first | exact h.1 | exact h.2.1 | exact h.2.2.1 | exact h.2.2.2.1
 ·first | exact h.1 | exact h.2.1 | exact h.2.2.1 | exact h.2.2.2.1
theorem Zm3 {x:Ze} (h:sm ZX x):sm .str (Gu x)/\sm (.sl (.int .i64)) (Gb x):=by
 refine ⟨?_,?_⟩
 ·first | exact h.1 | exact h.2.1 | exact h.2.2.1 | exact h.2.2.2.1
 ·first | exact h.1 | exact h.2.1 | exact h.2.2.1 | exact h.2.2.2.1
theorem ZDC {x:ZL} (h:sm ZaB x):sm .str (GO x):=by
 first | exact h.1 | exact h.2.1 | exact h.2.2.1 | exact h.2.2.2.1
theorem Zku (d:Zb) (h:sm Yi d):ZaI d=some (tr (ZnO d)):=by
 obtain ⟨h1,h2,h3⟩:=Zco h;have s1:=Zu h1;have s2:=Zu h2;have s3:=Zu h3;unfold ZaI;refine gather (l:=K1 d) s1 Gu (λk x o hx hk ho=>?_) ?_
 ·simp only[J6,hk,Uj,Zm,hx,Bq]
 simp only[J6,Uf,Uh];have hi:(Zbo d).length=(K1 d).length:=by simp[Zbo]
 have hp:(ZdB d).length=(Ga d).length:=by simp[ZdB]
 refine gather (l:=Ga d) s2 GO (λk x o hx hk ho=>?_) ?_
 ·simp only[J5,hk,Uj,Zm,hx,Bq]
 simp only[J5,Uf,Uh];rw[show List.map GO (Ga d)=ZdB d from rfl,show List.map Gu (K1 d)=Zbo d from rfl];simp only[hi,hp,ZbS _ (show (Zbo d).length<=4611686018427387904 by omega),ZbS _ (show (ZdB d).length<=4611686018427387904 by omega),ZbS _ (show (K6 d).length<=4611686018427387904 by omega),Bq];unfold ZnO;rw[hi,hp];by_cases a:(K1 d).length<=14
 ·rw[Uc (by omega)]
  by_cases b:(K6 d).length<=30
  ·rw[Uc (by omega)]
   by_cases c:(Ga d).length<=8
   ·rw[Uc (by omega)]
    by_cases e:V4 (Zbo d) (K1 d).length
    ·rw[Uc (ZU e)]
     by_cases f:V4 (K6 d) (K6 d).length
     ·rw[Uc (ZU f)]
      congr 3;exact VE ⟨λq=>⟨a,b,c,e,f,q⟩,λq=>q.2.2.2.2.2⟩
     ·rw[Ud (by rw[Yj f];simp),Yj (λq=>f q.2.2.2.2.1)]
    ·rw[Ud (by rw[Yj e];simp),Yj (λq=>e q.2.2.2.1)]
   ·rw[Ud (by omega),Yj (λq=>c q.2.2.1)]
  ·rw[Ud (by omega),Yj (λq=>b q.2.1)]
 ·rw[Ud (by omega),Yj (λq=>a q.1)]
def Zqh (n:Nat) (s:List Int):List Int:=(List.range n).map (λ(j:Nat)=>((s.countP (λx=>decide (x=(j:Int))):Nat):Int))
theorem Zkq (n:Nat) (s:List Int):(Zqh n s).length=n:=by simp[Zqh]
theorem Zt6 (n:Nat):Zqh n []=List.replicate n 0:=by
 apply UD;intro i;simp only[Zqh,List.countP_nil,UI,Kc,Kh];by_cases h:i<n
 ·simp[h]
 ·simp[h]
theorem Zkp {n:Nat} {s:List Int} {j:Nat} (h:j<n):(Zqh n s)[j]?=some ((s.countP (λx=>decide (x=(j:Int))):Nat):Int):=by
 simp[Zqh,h]
theorem ZD2 {n:Nat} {s:List Int} {x:Int} (h0:0<=x) (h1:x<(n:Int)):atI (Zqh n s) x=some ((s.countP (λy=>decide (y=x)):Nat):Int):=by
 refine YD h0 ?_;rw[Zkp (by omega),show ((x.toNat:Nat):Int)=x by omega]
theorem ZB8 {n:Nat} {s:List Int} {x:Int} (h0:0<=x) (h1:x<(n:Int)):List.set (Zqh n s) (Int.toNat x) (((s.countP (λy=>decide (y=x)):Nat):Int)+1)=Zqh n (s++[x]):=by
 apply UD;intro i;rw[UQ];by_cases hi:i<n
 ·rw[Zkp hi,Zkp hi,U2,Zkq]
  by_cases e:x.toNat=i
  ·subst e
   rw[Uc rfl,Uc (by omega),show ((x.toNat:Nat):Int)=x by omega];simp
  ·rw[Ud e]
   have:¬x=(i:Int):=by omega
   simp[List.countP_cons,this]
 ·have h1:(Zqh n s)[i]?=none:=by rw[UC];rw[Zkq];omega
  have h2:(Zqh n (s++[x]))[i]?=none:=by rw[UC];rw[Zkq];omega
  rw[h1,h2];split
  ·split
   ·rename_i h3;rw[Zkq] at h3;omega
   ·rfl
  ·rfl
theorem ZlD {n:Nat} {s:List Int} {x:Int} (h0:0<=x) (h1:x<(n:Int)) (hs:s.length<=1048576000) {τ:Type} (F:List Int->Option τ) :
  ((atI (Zqh n s) x).bind λy=>F (List.set (Zqh n s) (Int.toNat x) (Wq (y+1))))=F (Zqh n (s++[x])):=by
 have h2:=List.countP_le_length (p:=λy=>decide (y=x)) (l:=s);rw[ZD2 h0 h1,Bq,YZ (by omega) (by omega),ZB8 h0 h1]
def XU (x:Ze):Int:=(Gb x).getLastD 0
def Zb9 (d:Zb) (n:Int):Prop:=0<=n/\n<=((K6 d).length:Int)-1
def Zk5 (a:Zp) (d:Zb) (x:Ze):Prop :=
 (0<=Gx x/\Gx x<=((K8 a).length:Int)-1)/\(∃ c,(K8 a)[(Gx x).toNat]?=some c/\(Gb x).length=(K7 c).length)/\∀ n∈Gb x,Zb9 d n
def ZmI (d:Zb) (p:ZL):Prop:=(1<=Gz p/\Gz p<=2)/\Zb9 d (GI p)
def Zp2 (d:Zb):List Int:=(K1 d).map XU++((Ga d).filter (λp=>decide (Gz p=1))).map GI
def ZjQ (d:Zb):Prop:=∀ x∈Zqh (K6 d).length (Zp2 d),x=1
def X0 (a:Zp) (d:Zb):Prop:=Zvg a/\ZnO d/\(∀ x∈K1 d,Zk5 a d x)/\(∀ p∈Ga d,ZmI d p)/\ZjQ d
theorem Zk5.last {a:Zp} {d:Zb} {x:Ze} (h:Zk5 a d x) (hl:Zvg a) (hsm:(Gb x).length<=1048576):atI (Gb x) (Wq (((Gb x).length:Int)-1))=some (XU x)/\Zb9 d (XU x):=by
 obtain ⟨_,⟨c,hc,hn⟩,hall⟩:=h;have h2:2<=(K7 c).length:=(hl.2.1 c (Ue hc)).2.1.1;unfold XU;cases hN:Gb x with
 | nil=>rw[hN] at hn;simp at hn;omega
 | cons y r =>
  rw[hN] at hsm;rw[ZmK hsm (by simp),Zm];have e:(y::r)[(y::r).length-1]?=some ((y::r).getLastD 0):=by
   rw[<-List.getLast?_eq_getElem?,List.getLastD_eq_getLast?,List.getLast?_cons];rfl
  exact ⟨e,hall _ (by rw[hN];exact Ue e)⟩
theorem Zdu (d:Zb) (n:Int) (h:sm Yi d):Xf d n=some (tr (Zb9 d n)):=by
 have s3:=Zu (Zco h).2.2;unfold Xf;rw[show Xh (K6 d)=some ((K6 d).length:Int) from rfl,Bq,YZ (by omega) (by omega)];exact J4 (VO _ _ _)
theorem ZjB (d:Zb) (a:Zp) (x:Ze) (hd:sm Yi d) (ha:sm YV a) (hx:sm ZX x):JV d a x=some (tr (Zk5 a d x)):=by
 have sa:=Zu (Ztf ha);unfold JV;rw[show QJ (K8 a)=some ((K8 a).length:Int) from rfl,Bq,YZ (by omega) (by omega)];refine JA (P:=(0<=Gx x/\Gx x<=((K8 a).length:Int)-1)/\Zk5 a d x) (Xc (VO _ _ _) (λhw=>?_)) ⟨λq=>q.2,λq=>⟨q.1,q⟩⟩;obtain ⟨c,hc1,hc2⟩:=Zvn hw.1 (show Gx x<((K8 a).length:Int) by omega);rw[hc1,Bq];refine JA (P:=((Gb x).length:Int)=((K7 c).length:Int)/\∀ n∈Gb x,Zb9 d n) (Yq (λhe=>?_)) ?_
 ·rw[QO (Qi (Zm3 hx).2) (λn=>!tr (Zb9 d n)) (λn _=>by
   unfold Qu;show (Xf d n).bind _=_;rw[Zdu d n hd];rfl),Bq]
  refine Zch ?_;rw[UP,List.any_eq_false];constructor
  ·intro q n hn
   have:=q n hn;simp only[UP,Bool.not_eq_false] at this;exact (YS _).1 this
  ·intro q n hn
   simp only[UP,Bool.not_eq_false];exact ZU (q n hn)
 ·constructor
  ·rintro ⟨q1,q2⟩;exact ⟨hw,⟨c,hc2,by omega⟩,q2⟩
  ·rintro ⟨_,⟨c',q1,q2⟩,q3⟩
   rw[hc2] at q1;injection q1 with q1;subst q1
   exact ⟨by omega,q3⟩
theorem ZxL {d:Zb} {k:Nat} {p:ZL} (hx:(Ga d)[k]?=some p) (s:List Int) :
  s++(((Ga d).take (k+1)).filter (λp=>decide (Gz p=1))).map GI=(if Gz p=1 then (s++(((Ga d).take k).filter (λp=>decide (Gz p=1))).map GI)++[GI p] else s++(((Ga d).take k).filter (λp=>decide (Gz p=1))).map GI):=by
 rw[Yu hx,List.filter_append,UV];by_cases h:Gz p=1
 ·rw[Uc h];simp[h]
 ·rw[Ud h];simp[h]
theorem ZAe {d:Zb} (k m:Nat):(((K1 d).take m).map XU++(((Ga d).take k).filter (λp=>decide (Gz p=1))).map GI).length<=(K1 d).length+(Ga d).length:=by
 have h:=List.length_filter_le (λp=>decide (Gz p=1)) ((Ga d).take k);simp only[Ug,UL,Ui] at h ⊢;omega
theorem Zql (a:Zp) (d:Zb) (ha:sm YV a) (hd:sm Yi d):ZhL a d=some (tr (X0 a d)):=by
 obtain ⟨h1,h2,h3⟩:=Zco hd;have s1:=Zu h1;have s2:=Zu h2;have s3:=Zu h3;unfold ZhL;refine JA (P:=Zvg a/\ZnO d/\(ZfL (K1 d) (λ_ x=>Zk5 a d x)/\(ZfL (Ga d) (λ_ p=>ZmI d p)/\ZjQ d))) (Xc (Zo3 a ha) (λhL=>Xc (Zku d hd) (λhN=>?_))) (by rw[Zd0,Zd0];exact Iff.rfl);rw[Zg (by omega),Zg (by omega),Zg (by omega),Zg (by omega)];have:=Zjo (l:=K1 d) (ρ:=Bool) (λk=>((k:Int),Zqh (K6 d).length (((K1 d).take k).map XU),())) (λ_ x=>Zk5 a d x) (step:=λv=>Zby a d v.1 v.2.1) (bad:=false) (good:=tr (ZfL (Ga d) (λ_ p=>ZmI d p)/\ZjQ d))
  (λk x hx hk _=>by
   have hsx:=Zas h1 hx;simp only[Zby,show (k:Int)<((K1 d).length:Int) from by omega,Uj,Zm,hx,Bq,ZjB d a x hd ha hsx];constructor
   ·intro hh
    obtain ⟨e1,e2⟩:=hh.last hL (Zu (Zm3 hsx).2);rw[Uc (ZU hh),e1,Bq,ZlD e2.1 (by have:=e2.2;omega) (by simp only[UL,Ui];omega) (F:=λo=>some (Sum.inl (Wq ((k:Int)+1),o,()))),Yu hx,UV,Y4 (by omega)];rfl
   ·intro hh;rw[Ud (by rw[Yj hh];simp)])
  (λhA=>by
   simp only[Zby,Uf,Uh,Um];have:=Zjo (l:=Ga d) (ρ:=Int×List Int×Unit ⊕ Bool) (λk=>((k:Int),Zqh (K6 d).length ((K1 d).map XU++(((Ga d).take k).filter (λp=>decide (Gz p=1))).map GI),())) (λ_ p=>ZmI d p) (step:=λv=>JD d v.1 v.2.1) (bad:=.inr false) (good:=.inr (tr (ZjQ d)))
    (λk p hx hk _=>by
     have hl:=ZAe (d:=d) k (K1 d).length;rw[Um] at hl;simp only[JD,show (k:Int)<((Ga d).length:Int) from by omega,Uj,Zm,hx,Bq,Zdu d _ hd,ZxL hx];by_cases d1:Gz p=1
     ·simp only[d1,Uj]
      constructor
      ·intro hh
       rw[Uc (ZU hh.2),ZlD hh.2.1 (by have:=hh.2.2;omega) (by omega) (F:=λo=>some (Sum.inl (Wq ((k:Int)+1),o,()))),Y4 (by omega)]
      ·intro hh
       rw[Ud (by rw[Yj (λq=>hh ⟨by omega,q⟩)];simp)]
     ·simp only[d1,Uh]
      by_cases d2:Gz p=2
      ·simp only[d2,Uj]
       constructor
       ·intro hh
        rw[Uc (ZU hh.2),Y4 (by omega)]
       ·intro hh
        rw[Ud (by rw[Yj (λq=>hh ⟨by omega,q⟩)];simp)]
      ·simp only[d2,Uh]
       exact ⟨λhh=>by have:=hh.1;omega,λ_=>trivial⟩)
    (λ_=>by
     simp only[JD,Uf,Uh,Um];rw[JJ (show Len _ by show List.length _<=_;rw[Zkq];omega) (λn=>!decide (n=1)) (λn _=>rfl),Bq];congr 3;refine (ZqV ?_).symm;rw[UP,List.any_eq_false];simp only[UP,Bool.not_eq_false,Uk,Kj,Classical.not_not];exact Iff.rfl)
   refine (show Zq (λv=>JD d v.1 v.2.1) ((0:Int),Zqh (K6 d).length ((K1 d).map XU),())=_ from (by simpa using this)).trans ?_;by_cases hP:ZfL (Ga d) (λ_ p=>ZmI d p)
   ·rw[QF hP];congr 2;exact VE ⟨λq=>⟨hP,q⟩,λq=>q.2⟩
   ·rw[Qc hP,Yj (λq=>hP q.1)])
 rw[Zmo] at this;refine Eq.trans ?_ this;rw[Ku,Kw,Zt6];rfl
theorem ZqR (a:Zp) (d:Zb) (ha:sm YV a) (hd:sm Yi d):Zh4 a d=some (tr (ZfL (K1 d) (λ_ x=>Zk5 a d x)/\ZfL (Ga d) (λ_ p=>ZmI d p))):=by
 obtain ⟨h1,h2,h3⟩:=Zco hd;have s1:=Zu h1;have s2:=Zu h2;have s3:=Zu h3;have sa:=Zu (Ztf ha);have e1:Wq (((K6 d).length:Int)-1)=((K6 d).length:Int)-1:=YZ (by omega) (by omega);have e2:Wq (((K8 a).length:Int)-1)=((K8 a).length:Int)-1:=YZ (by omega) (by omega);unfold Zh4;rw[VL (Qi h1) (λ_ x=>Zk5 a d x) (bad:=false) (good:=tr (ZfL (Ga d) (λ_ p=>ZmI d p)))
  (λk x hx hk _=>by
   have hsx:=Zas h1 hx;simp only[ZeD,show (k:Int)<((K1 d).length:Int) from by omega,Uj,Zm,hx,Bq,VW,e2];by_cases hc:0<=Gx x/\Gx x<=((K8 a).length:Int)-1
   ·obtain ⟨c,hc1,hc2⟩:=Zvn hc.1 (show Gx x<((K8 a).length:Int) by omega)
    rw[Uc (ZU hc),hc1,Bq];by_cases hp:((Gb x).length:Int)=((K7 c).length:Int)
    ·rw[Uc hp,VL (Qi (Zm3 hsx).2) (λ_ n=>Zb9 d n) (bad:=.inr false) (good:=.inl (Wq ((k:Int)+1),()))
      (λj n hn hj _=>by
       simp only[ZeB,show (j:Int)<((Gb x).length:Int) from by omega,Uj,Zm,hn,Bq,VW,e1];constructor
       ·intro hh;exact Uc (ZU hh)
       ·intro hh;exact Ud (λq=>hh ((YS _).1 q)))
      (λ_=>by simp only[ZeB,Uf,Uh])]
     constructor
     ·intro hh;rw[QF (Zd0.2 hh.2.2)]
     ·intro hh;rw[Qc (λq=>hh ⟨hc,⟨c,hc2,by omega⟩,Zd0.1 q⟩)]
    ·rw[Ud hp]
     refine ⟨λhh=>?_,λ_=>rfl⟩;obtain ⟨_,⟨c',q1,q2⟩,_⟩:=hh;rw[hc2] at q1;injection q1 with q1;subst q1
     exact absurd (by omega) hp
   ·rw[Ud (by rw[Yj hc];simp)]
    exact ⟨λhh=>absurd hh.1 hc,λ_=>rfl⟩)
  (λ_=>by
   simp only[ZeD,Uf,Uh];rw[VL (Qi h2) (λ_ p=>ZmI d p) (bad:=.inr false) (good:=.inr true)
    (λk p hx hk _=>by
     simp only[ZeC,show (k:Int)<((Ga d).length:Int) from by omega,Uj,Zm,hx,Bq,VW,e1];by_cases hc:1<=Gz p/\Gz p<=2
     ·rw[Uc (ZU hc)]
      constructor
      ·intro hh;exact Uc (ZU hh.2)
      ·intro hh;exact Ud (λq=>hh ⟨hc,(YS _).1 q⟩)
     ·rw[Ud (by rw[Yj hc];simp)]
      exact ⟨λhh=>absurd hh.1 hc,λ_=>rfl⟩)
    (λ_=>by simp only[ZeC,Uf,Uh])]
   congr 1;by_cases hh:ZfL (Ga d) (λ_ p=>ZmI d p)
   ·rw[QF hh,ZU hh]
   ·rw[Qc hh,Yj hh])]
 rw[Zmo]
theorem Zym {α:Type} {l:List α} {f:α->List UInt8} (h:∀ x∈l,(f x).length<=4611686018427387904):∀ s∈l.map f,s.length<=4611686018427387904:=by
 intro s hs;obtain ⟨x,hx,rfl⟩:=Kq.1 hs;exact h x hx
theorem ZqO (a:Zp) (d:Zb) (ha:sm YV a) (hd:sm Yi d):Zh0 a d=some (tr (X0 a d)):=by
 obtain ⟨h1,h2,h3⟩:=Zco hd;have s1:=Zu h1;have s2:=Zu h2;have s3:=Zu h3;unfold Zh0;refine JA (Xc (ZpO a ha) (λhL=>Zkm (λa1=>Zkm (λa2=>Zkm (λa3=>Xc (ZqR a d ha hd) (λhP=>?_))))))
  (P:=Zvg a/\¬(14:Int)<((K1 d).length:Int)/\¬(30:Int)<((K6 d).length:Int)/\¬(8:Int)<((Ga d).length:Int)/\(ZfL (K1 d) (λ_ x=>Zk5 a d x)/\ZfL (Ga d) (λ_ p=>ZmI d p))/\(V4 (Zbo d) (Zbo d).length/\V4 (ZdB d) (ZdB d).length/\V4 (K6 d) (K6 d).length)/\ZjQ d) ?_
 ·have hi:(Zbo d).length=(K1 d).length:=by simp[Zbo]
  have hp:(ZdB d).length=(Ga d).length:=by simp[ZdB]
  refine gather (l:=K1 d) s1 Gu (λk x o hx hk ho=>?_) ?_
  ·simp only[Zex,hk,Uj,Zm,hx,Bq]
  simp only[Zex,Uf,Uh];refine gather (l:=Ga d) s2 GO (λk x o hx hk ho=>?_) ?_
  ·simp only[Zew,hk,Uj,Zm,hx,Bq]
  simp only[Zew,Uf,Uh];rw[show List.map GO (Ga d)=ZdB d from rfl,show List.map Gu (K1 d)=Zbo d from rfl];simp only[Zha (Zbo d) (by omega) (Zym (λx hx=>Zkf (Zm3 (Zv6 h1 hx)).1)),Zha (ZdB d) (by omega) (Zym (λx hx=>Zkf (ZDC (Zv6 h2 hx)))),Zha (K6 d) (by omega) (λs hs=>Zkf (Zv6 h3 hs)),Bq];by_cases n1:V4 (Zbo d) (Zbo d).length
  ·rw[Uc (ZU n1)]
   by_cases n2:V4 (ZdB d) (ZdB d).length
   ·rw[Uc (ZU n2)]
    by_cases n3:V4 (K6 d) (K6 d).length
    ·rw[Uc (ZU n3),Zg (by omega),Zg (by omega),Zg (by omega),Zg (by omega)]
     have:=YK (l:=K1 d) (ρ:=(List (List UInt8))×Int×Unit ⊕ ((List (List UInt8))×Int×Unit ⊕ Bool)) (λk=>((k:Int),Zqh (K6 d).length (((K1 d).take k).map XU),())) (step:=λv=>JN d v.1 v.2.1) (good:=.inr (.inr (tr (ZjQ d))))
      (λk x hx hk=>by
       have hsx:=Zas h1 hx;obtain ⟨e1,e2⟩:=(hP.1 k x hx).last hL (Zu (Zm3 hsx).2);simp only[JN,show (k:Int)<((K1 d).length:Int) from by omega,Uj,Zm,hx,Bq];rw[e1,Bq,ZlD e2.1 (by have:=e2.2;omega) (by simp only[UL,Ui];omega) (F:=λo=>some (Sum.inl (Wq ((k:Int)+1),o,()))),Yu hx,UV,Y4 (by omega)];rfl)
      (by
       simp only[JN,Uf,Uh,Um];have:=YK (l:=Ga d) (ρ:=Int×List Int×Unit ⊕ ((List (List UInt8))×Int×Unit ⊕ ((List (List UInt8))×Int×Unit ⊕ Bool))) (λk=>((k:Int),Zqh (K6 d).length ((K1 d).map XU++(((Ga d).take k).filter (λp=>decide (Gz p=1))).map GI),())) (step:=λv=>JM d v.1 v.2.1) (good:=.inr (.inr (.inr (tr (ZjQ d)))))
        (λk p hx hk=>by
         have hl:=ZAe (d:=d) k (K1 d).length;rw[Um] at hl;have hpo:=hP.2 k p hx;simp only[JM,show (k:Int)<((Ga d).length:Int) from by omega,Uj,Zm,hx,Bq,ZxL hx];by_cases d1:Gz p=1
         ·simp only[d1,Uj]
          rw[ZlD hpo.2.1 (by have:=hpo.2.2;omega) (by omega) (F:=λo=>some (Sum.inl (Wq ((k:Int)+1),o,()))),Y4 (by omega)]
         ·simp only[d1,Uh]
          rw[Y4 (by omega)])
        (by
         simp only[JM,Uf,Uh,Um];rw[VL (l:=Zqh (K6 d).length ((K1 d).map XU++((Ga d).filter (λp=>decide (Gz p=1))).map GI)) (show List.length _<=_ by rw[Zkq];omega) (λ_ x=>x=1) (bad:=.inr (.inr (.inr (.inr false)))) (good:=.inr (.inr (.inr (.inr true))))
          (λk x hx hk _=>by
           simp only[Zev,show (k:Int)<((Zqh (K6 d).length ((K1 d).map XU++((Ga d).filter (λp=>decide (Gz p=1))).map GI)).length:Int) from by omega,Uj,Zm,hx,Bq];constructor
           ·intro hh;rw[Uc hh]
           ·intro hh;rw[Ud hh])
          (λ_=>by simp only[Zev,Uf,Uh])]
         congr 1;have e:ZfL (Zqh (K6 d).length ((K1 d).map XU++((Ga d).filter (λp=>decide (Gz p=1))).map GI)) (λ_ x=>x=1)<->ZjQ d:=by
          rw[Zd0];exact Iff.rfl
         by_cases hh:ZjQ d
         ·rw[QF (e.2 hh),ZU hh]
         ·rw[Qc (λq=>hh (e.1 q)),Yj hh])
       refine (show Zq (λv=>JM d v.1 v.2.1) ((0:Int),Zqh (K6 d).length ((K1 d).map XU),())=_ from (by simpa using this)).trans ?_;rfl)
     rw[Ku,Kw,Zt6] at this;refine (show Zq (λv=>JN d v.1 v.2.1) ((0:Int),List.replicate (K6 d).length 0,())=_ from this).trans ?_;congr 3;exact VE ⟨λq=>⟨⟨n1,n2,n3⟩,q⟩,λq=>q.2⟩
    ·rw[Ud (by rw[Yj n3];simp),Yj (λq=>n3 q.1.2.2)]
   ·rw[Ud (by rw[Yj n2];simp),Yj (λq=>n2 q.1.2.1)]
  ·rw[Ud (by rw[Yj n1];simp),Yj (λq=>n1 q.1.1)]
 ·unfold X0 ZnO
  rw[Zd0,Zd0];constructor
  ·rintro ⟨q1,q2,q3,q4,⟨q5,q6⟩,⟨q7,q8,q9⟩,q10⟩
   exact ⟨q1,⟨by omega,by omega,by omega,q7,q9,q8⟩,q5,q6,q10⟩
  ·rintro ⟨q1,⟨q2,q3,q4,q7,q9,q8⟩,q5,q6,q10⟩
   exact ⟨q1,by omega,by omega,by omega,⟨q5,q6⟩,⟨q7,q8,q9⟩,q10⟩
def cat {α β:Type} (f:Nat->α->List β):Nat->List α->List β
 | _,[]=>[]
 | k,x::r=>f k x++cat f (k+1) r
theorem ZeK {α β:Type} (f:Nat->α->List β):∀ (l r:List α) (m:Nat),cat f m (l++r)=cat f m l++cat f (m+l.length) r
 | [],r,m=>by simp[cat]
 | x::l,r,m=>by
  simp only[U0,cat,Uz,ZeK f l r,Ul];rw[show m+1+l.length=m+(l.length+1) by omega]
theorem Zcg {α β:Type} {f:Nat->α->List β} {l:List α} {k:Nat} {x:α} (hx:l[k]?=some x):cat f 0 (l.take (k+1))=cat f 0 (l.take k)++f k x:=by
 have hk:=(Ub.1 hx).1;rw[Yu hx,ZeK];simp only[cat,Uw,Ui,Uo];rw[show min k l.length=k by omega]
theorem X8 {α β:Type} {f:Nat->α->List β} {y:β}:∀ {l:List α} {m:Nat},y∈cat f m l<->∃ (k:Nat) (x:α),l[k]?=some x/\y∈f (m+k) x
 | [],m=>by simp[cat]
 | z::r,m=>by
  simp only[cat,UB,X8 (l:=r)];constructor
  ·rintro (h | ⟨k,x,h1,h2⟩)
   ·exact ⟨0,z,rfl,h⟩
   ·exact ⟨k+1,x,by simpa using h1,by rw[show m+(k+1)=m+1+k by omega];exact h2⟩
  ·rintro ⟨k,x,h1,h2⟩
   cases k with
   | zero=>simp at h1;subst h1;exact .inl h2
   | succ k=>exact .inr ⟨k,x,by simpa using h1,by rw[show m+1+k=m+(k+1) by omega];exact h2⟩
theorem ZaE {α β:Type} {f:Nat->α->List β} {c:Nat}:∀ {l:List α} {m:Nat},(∀ k,∀ x∈l,(f k x).length<=c)->(cat f m l).length<=c*l.length
 | [],m,_=>by simp[cat]
 | z::r,m,h=>by
  simp only[cat,Ug,Uz];have h1:=h m z (by simp);have h2:=ZaE (f:=f) (l:=r) (m:=m+1) (λk x hx=>h k x (by simp[hx]));rw[Nat.mul_add];omega
theorem Xr {α β ρ:Type} {l:List α} (f:Nat->α->List β) (acc:List β) {step:List β×Int×Unit->Option ((List β×Int×Unit) ⊕ ρ)} {good:ρ}
  (hs:∀ (k:Nat) (x:α),l[k]?=some x->k<l.length->step (acc++cat f 0 (l.take k),(k:Int),())=some (.inl ((acc++cat f 0 (l.take k))++f k x,((k+1:Nat):Int),())))
  (hx:step (acc++cat f 0 l,(l.length:Int),())=some (.inr good)):Zq step (acc,(0:Int),())=some good:=by
 have:=YK (l:=l) (ρ:=ρ) (λk=>(acc++cat f 0 (l.take k),(k:Int),())) (step:=step) (good:=good) (λk x hx hk=>by
  rw[hs k x hx hk,Zcg hx,Ul]) (by simp only[Um];exact hx)
 simpa[cat] using this
abbrev Pl:=Int×Int×Int×Bool×Unit
def YH (i:Nat) (x:Ze):List Pl:=cat (λj n=>[((i:Int),(j:Int),n,decide ((j:Int)=Wq (((Gb x).length:Int)-1)),())]) 0 (Gb x)
def Zba (j:Nat) (p:ZL):List Pl:=[((-1:Int),(j:Int),GI p,decide (Gz p=1),())]
def places (d:Zb):List Pl:=cat YH 0 (K1 d)++cat Zba 0 (Ga d)
theorem Zy0 (i:Nat) (x:Ze):(YH i x).length<=(Gb x).length:=by
 have:=ZaE (f:=λj n=>[((i:Int),(j:Int),n,decide ((j:Int)=Wq (((Gb x).length:Int)-1)),())]) (c:=1) (l:=Gb x) (m:=0) (λ_ _ _=>by simp);simpa[YH] using this
structure Few (d:Zb):Prop where
 insts:(K1 d).length<=14
 ports:(Ga d).length<=8
 nets:∀ x∈K1 d,(Gb x).length<=5
theorem X0.few {a:Zp} {d:Zb} (h:X0 a d):Few d:=by
 refine ⟨h.2.1.1,h.2.1.2.2.1,λx hx=>?_⟩;obtain ⟨_,⟨c,hc,hn⟩,_⟩:=h.2.2.1 x hx;have:=(h.1.2.1 c (Ue hc)).2.1.2.1;omega
theorem ZeL {d:Zb} (h:Few d) (k:Nat):(cat YH 0 ((K1 d).take k)).length<=70:=by
 have:=ZaE (f:=YH) (c:=5) (l:=(K1 d).take k) (m:=0) (λi x hx=>by
  have h1:=Zy0 i x;have h2:=h.nets x (List.mem_of_mem_take hx);omega)
 have h1:=h.insts;rw[Ui] at this;omega
theorem ZlB {d:Zb} (h:Few d) (k:Nat):(cat Zba 0 ((Ga d).take k)).length<=8:=by
 have:=ZaE (f:=Zba) (c:=1) (l:=(Ga d).take k) (m:=0) (λi x hx=>by simp[Zba]);have h1:=h.ports;rw[Ui] at this;omega
theorem Z0 {d:Zb} (h:Few d):(places d).length<=78:=by
 have h1:=ZeL h (K1 d).length;have h2:=ZlB h (Ga d).length;rw[Um] at h1 h2;unfold places;rw[Ug];omega
theorem ZN (d:Zb) (h:Few d):ZR d=some (places d):=by
 have h1:=h.insts;have h2:=h.ports;unfold ZR;refine Xr (l:=K1 d) YH [] (λk x hx hk=>?_) ?_
 ·have hn:=h.nets x (Ue hx)
  have hl:=ZeL h k;simp only[Us,Za0,show (k:Int)<((K1 d).length:Int) from by omega,Uj,Zm,hx,Bq];refine Xr (l:=Gb x) (λj n=>[((k:Int),(j:Int),n,decide ((j:Int)=Wq (((Gb x).length:Int)-1)),())]) _ (λj n hj hk'=>?_) ?_
  ·have hl2:=ZaE (f:=λj n=>[((k:Int),(j:Int),n,decide ((j:Int)=Wq (((Gb x).length:Int)-1)),())]) (c:=1) (l:=(Gb x).take j) (m:=0) (λ_ _ _=>by simp)
   rw[Ui] at hl2;simp only[ZaY,show (j:Int)<((Gb x).length:Int) from by omega,Uj,Zm,hj,Bq];rw[Zg (by rw[Ug,Un];omega),Y4 (by omega)]
  ·simp only[ZaY,Uf,Uh]
   rw[Y4 (by omega)];rfl
 ·have hl:=ZeL h (K1 d).length
  rw[Um] at hl;simp only[Us,Za0,Uf,Uh];refine Xr (l:=Ga d) Zba _ (λj p hj hk'=>?_) ?_
  ·have hl2:=ZlB h j
   simp only[ZaZ,show (j:Int)<((Ga d).length:Int) from by omega,Uj,Zm,hj,Bq];rw[Zg (by rw[Ug,Un];omega),Y4 (by omega)];rfl
  ·simp only[ZaZ,Uf,Uh];rfl
theorem Yg (d:Zb) (h:Few d):YI d=some (places d):=by
 have h1:=h.insts;have h2:=h.ports;unfold YI;refine Xr (l:=K1 d) YH [] (λk x hx hk=>?_) ?_
 ·have hn:=h.nets x (Ue hx)
  have hl:=ZeL h k;simp only[Us,ZdI,show (k:Int)<((K1 d).length:Int) from by omega,Uj,Zm,hx,Bq];refine Xr (l:=Gb x) (λj n=>[((k:Int),(j:Int),n,decide ((j:Int)=Wq (((Gb x).length:Int)-1)),())]) _ (λj n hj hk'=>?_) ?_
  ·have hl2:=ZaE (f:=λj n=>[((k:Int),(j:Int),n,decide ((j:Int)=Wq (((Gb x).length:Int)-1)),())]) (c:=1) (l:=(Gb x).take j) (m:=0) (λ_ _ _=>by simp)
   rw[Ui] at hl2;simp only[ZdG,show (j:Int)<((Gb x).length:Int) from by omega,Uj,Zm,hj,Bq];rw[Zg (by rw[Ug,Un];omega),Y4 (by omega)]
  ·simp only[ZdG,Uf,Uh]
   rw[Y4 (by omega)];rfl
 ·have hl:=ZeL h (K1 d).length
  rw[Um] at hl;simp only[Us,ZdI,Uf,Uh];refine Xr (l:=Ga d) Zba _ (λj p hj hk'=>?_) ?_
  ·have hl2:=ZlB h j
   simp only[ZdH,show (j:Int)<((Ga d).length:Int) from by omega,Uj,Zm,hj,Bq];rw[Zg (by rw[Ug,Un];omega),Y4 (by omega)];rfl
  ·simp only[ZdH,Uf,Uh];rfl
def Ji (net:Int) (i:Nat) (x:Pl):List Int:=if x.2.2.1=net then (if x.2.2.2.1=true then [] else [(i:Int)]) else []
def sinks (d:Zb) (net:Int):List Int:=cat (Ji net) 0 (places d)
theorem Zbb (net:Int) (l:List Pl) (m:Nat):(cat (Ji net) m l).length<=l.length:=by
 have:=ZaE (f:=Ji net) (c:=1) (l:=l) (m:=m) (λi x _=>by
  unfold Ji;split
  ·split<;>simp
  ·simp)
 omega
theorem ZaK (d:Zb) (net:Int) (h:Few d):Za1 d net=some (sinks d net):=by
 have hp:=Z0 h;unfold Za1;rw[ZN d h,Bq];refine Xr (l:=places d) (Ji net) [] (λk x hx hk=>?_) ?_
 ·have hl:=Zbb net ((places d).take k) 0
  rw[Ui] at hl;simp only[Us,Zbw,show (k:Int)<((places d).length:Int) from by omega,Uj,Zm,hx,Bq,Ji,Y4 (show k<=1048576 by omega)];split
  ·split
   ·rw[Uo]
   ·rw[Zg (by
     show (List.length _+1)*8<=_;have:(cat (Ji net) 0 ((places d).take k)).length<=78:=by omega
     omega)]
  ·rw[Uo]
 ·simp only[Us,Zbw,Uf,Uh];rfl
theorem XZ (d:Zb) (net:Int) (h:Few d):QA d net=some (sinks d net):=by
 have hp:=Z0 h;unfold QA;rw[Yg d h,Bq];refine Xr (l:=places d) (Ji net) [] (λk x hx hk=>?_) ?_
 ·have hl:=Zbb net ((places d).take k) 0
  rw[Ui] at hl;simp only[Us,ZeE,show (k:Int)<((places d).length:Int) from by omega,Uj,Zm,hx,Bq,Ji,Y4 (show k<=1048576 by omega)];split
  ·split
   ·rw[Uo]
   ·rw[Zg (by
     show (List.length _+1)*8<=_;have:(cat (Ji net) 0 ((places d).take k)).length<=78:=by omega
     omega)]
  ·rw[Uo]
 ·simp only[Us,ZeE,Uf,Uh];rfl
def loads (d:Zb):List Int:=((places d).filter (λx=>!x.2.2.2.1)).map (λx=>x.2.2.1)
theorem Zsj (net:Int):∀ (l:List Pl) (m:Nat),(cat (Ji net) m l).length=((l.filter (λx=>!x.2.2.2.1)).map (λx=>x.2.2.1)).countP (λy=>decide (y=net))
 | [],m=>by simp[cat]
 | x::r,m=>by
  simp only[cat,Ug,Zsj net r,Ji];obtain ⟨a,b,n,dr,u⟩:=x;cases dr
  ·by_cases e:n=net
   ·simp[e,Nat.add_comm]
   ·simp[e]
  ·simp
theorem Zm4 {w:Zo} (h:sm QD w):sm (.sl (.int .i64)) (K3 w)/\sm (.sl (.int .i64)) (Gy w)/\sm (.sl (.int .i64)) (GD w)/\sm (.sl (.int .i64)) (Gk w):=by
 refine ⟨?_,?_,?_,?_⟩;all_goals first | exact h.1 | exact h.2.1 | exact h.2.2.1 | exact h.2.2.2.1
theorem JK {b:Za} (h:sm ZT b):sm YV (K4 b)/\sm Yi (KZ b)/\sm (.sl QD) (K2 b):=by
 refine ⟨?_,?_,?_⟩;all_goals first | exact h.1 | exact h.2.1 | exact h.2.2.1 | exact h.2.2.2.1
def Zq9 (w:Zo) (k:Nat) (x:Int):Prop:=(k=0->x=-1/\(Gy w)[0]?=some 0)/\(0<k->0<=x/\x<=(k:Int)-1)
def ZbO (w:Zo) (s:Int):Prop :=
 (1<=(K3 w).length/\(K3 w).length<=8)/\(Gy w).length=(K3 w).length/\(GD w).length=(K3 w).length/\((Gk w).length:Int)=s/\
 ZfL (K3 w) (Zq9 w)/\ZjP (Gy w) 0 1000/\ZjP (GD w) 0 500/\ZjP (Gk w) 0 (((K3 w).length:Int)-1)
theorem ZiY (l:List Int) (lo hi:Int) (hl:l.length<=1048576):XD l lo hi=some (tr (ZjP l lo hi)):=by
 rw[Zdc l lo hi (by omega)];exact Zch (ZnP _ _ _)
theorem Znj (w:Zo) (hw:sm QD w) (h1:1<=(K3 w).length) (h2:(Gy w).length=(K3 w).length):Zd6 w=some (tr (ZfL (K3 w) (Zq9 w))):=by
 obtain ⟨a1,a2,a3,a4⟩:=Zm4 hw;have s1:=Zu a1;unfold Zd6;have hr:(Gy w)[0]?=some (Gy w)[0]:=Ua (by omega);rw[VL (Qi a1) (Zq9 w) (bad:=false) (good:=true)
  (λk x hx hk _=>by
   simp only[Zcc,show (k:Int)<((K3 w).length:Int) from by omega,Uj,Zm,hx,Bq];unfold Zq9;by_cases hk0:k=0
   ·subst hk0
    rw[Uc (by rfl),show atI (Gy w) 0=some (Gy w)[0] from hr,hr];simp only[Bq,Option.some.injEq];rw[Ud (show ¬(0:Int)<((0:Nat):Int) by omega)];constructor
    ·intro hh
     obtain ⟨q1,q2⟩:=hh.1 trivial;rw[Uc q1,Uc q2]
    ·intro hh
     by_cases q1:x=-1
     ·rw[Uc q1,Ud (λq2=>hh ⟨λ_=>⟨q1,q2⟩,λh=>by omega⟩)]
     ·rw[Ud q1]
   ·rw[Ud (by omega),Uc (by omega),VO,Bq,YZ (by omega) (by omega)]
    constructor
    ·intro hh;rw[Uc (ZU (hh.2 (by omega)))]
    ·intro hh;rw[Ud (λq=>hh ⟨λh=>absurd h hk0,λ_=>(YS _).1 q⟩)])
  (λ_=>by simp only[Zcc,Uf,Uh]),Zlj]
theorem ZmR (w:Zo) (s:Int) (hw:sm QD w):ZiB w s=some (tr (ZbO w s)):=by
 obtain ⟨a1,a2,a3,a4⟩:=Zm4 hw;have s1:=Zu a1;have s2:=Zu a2;have s3:=Zu a3;have s4:=Zu a4;unfold ZiB;simp only[Vf,Bq,YZ (show (-9223372036854775808:Int)<=((K3 w).length:Int)-1 by omega) (by omega)];refine JA (Xc (VO _ _ _) (λq1=>Yq (λq2=>Yq (λq3=>Xc (Znj w hw (by omega) (by omega)) (λq4=>Xc (ZiY _ _ _ s2) (λq5=>Xc (ZiY _ _ _ s3) (λq6=>Yq (λq7=>J4 (ZiY _ _ _ s4))))))))) ?_;unfold ZbO;constructor
 ·rintro ⟨q1,q2,q3,q4,q5,q6,q7,q8⟩
  exact ⟨⟨by omega,by omega⟩,by omega,by omega,q7,q4,q5,q6,q8⟩
 ·rintro ⟨q1,q2,q3,q7,q4,q5,q6,q8⟩
  exact ⟨by omega,by omega,by omega,q4,q5,q6,q7,q8⟩
theorem Zxy {l:List Int} {lo hi:Int}:ZjP l lo hi<->∀ (k:Nat) (x:Int),l[k]?=some x->lo<=x/\x<=hi:=by
 unfold ZjP;constructor
 ·intro h k x hx;exact h x (Ue hx)
 ·intro h x hx
  obtain ⟨k,hk⟩:=UE.1 hx;exact h k x hk
theorem ZjL (w:Zo) (s:Int) (hw:sm QD w):ZiO w s=some (tr (ZbO w s)):=by
 obtain ⟨a1,a2,a3,a4⟩:=Zm4 hw;have s1:=Zu a1;have s2:=Zu a2;have s3:=Zu a3;have s4:=Zu a4;have e1:Wq (((K3 w).length:Int)-1)=((K3 w).length:Int)-1:=YZ (by omega) (by omega);unfold ZiO;refine JA (Zkm (λq1=>Zkm (λq2=>Yq (λq3=>Yq (λq4=>Yq (λq5=>?_)))))) ?_
  (P:=¬((K3 w).length:Int)<1/\¬(8:Int)<((K3 w).length:Int)/\((Gy w).length:Int)=((K3 w).length:Int)/\((GD w).length:Int)=((K3 w).length:Int)/\((Gk w).length:Int)=s/\
   (ZfL (K3 w) (λk x=>(∀ c,(GD w)[k]?=some c->0<=c/\c<=500)/\(∀ r,(Gy w)[k]?=some r->0<=r/\r<=1000)/\Zq9 w k x)/\ZjP (Gk w) 0 (((K3 w).length:Int)-1)))
 ·rw[VL (Qi a1) (λk x=>(∀ c,(GD w)[k]?=some c->0<=c/\c<=500)/\(∀ r,(Gy w)[k]?=some r->0<=r/\r<=1000)/\Zq9 w k x) (bad:=false) (good:=tr (ZjP (Gk w) 0 (((K3 w).length:Int)-1)))
   (λk x hx hk _=>by
    have hc:(GD w)[k]?=some (GD w)[k]:=Ua (by omega);have hr:(Gy w)[k]?=some (Gy w)[k]:=Ua (by omega);simp only[Zgc,show (k:Int)<((K3 w).length:Int) from by omega,Uj,Zm,hc,hr,hx,Bq,VW,Option.some.injEq,forall_eq'];generalize (GD w)[k]=c at hc;generalize (Gy w)[k]=r at hr;by_cases qc:0<=c/\c<=500
    ·rw[Uc (ZU qc)]
     by_cases qr:0<=r/\r<=1000
     ·rw[Uc (ZU qr)]
      unfold Zq9;by_cases hk0:k=0
      ·subst hk0
       rw[Uc (by rfl),hr];simp only[Option.some.injEq];rw[Ud (show ¬(0:Int)<((0:Nat):Int) by omega)];constructor
       ·rintro ⟨_,_,hh⟩
        obtain ⟨q1,q2⟩:=hh.1 trivial;rw[Uc q1,Uc q2]
       ·intro hh
        by_cases q1:x=-1
        ·rw[Uc q1,Ud (λq2=>hh ⟨qc,qr,λ_=>⟨q1,q2⟩,λh=>by omega⟩)]
        ·rw[Ud q1]
      ·rw[Ud (by omega),Uc (by omega),YZ (show (-9223372036854775808:Int)<=(k:Int)-1 by omega) (by omega)]
       constructor
       ·intro hh;rw[Uc (ZU (hh.2.2.2 (by omega)))]
       ·intro hh;rw[Ud (λq=>hh ⟨qc,qr,λh=>absurd h hk0,λ_=>(YS _).1 q⟩)]
     ·rw[Ud (λq=>qr ((YS _).1 q))]
      exact ⟨λhh=>absurd hh.2.1 qr,λ_=>rfl⟩
    ·rw[Ud (λq=>qc ((YS _).1 q))]
     exact ⟨λhh=>absurd hh.1 qc,λ_=>rfl⟩)
   (λ_=>by
    simp only[Zgc,Uf,Uh];rw[VL (Qi a4) (λ_ x=>0<=x/\x<=((K3 w).length:Int)-1) (bad:=.inr false) (good:=.inr true)
     (λk x hx hk _=>by
      simp only[Zgb,show (k:Int)<((Gk w).length:Int) from by omega,Uj,Zm,hx,Bq,VW,e1];constructor
      ·intro hh;rw[Uc (ZU hh)]
      ·intro hh;rw[Ud (λq=>hh ((YS _).1 q))])
     (λ_=>by simp only[Zgb,Uf,Uh])]
    congr 1;have e:ZfL (Gk w) (λ_ x=>0<=x/\x<=((K3 w).length:Int)-1)<->ZjP (Gk w) 0 (((K3 w).length:Int)-1):=Zd0;by_cases hh:ZjP (Gk w) 0 (((K3 w).length:Int)-1)
    ·rw[QF (e.2 hh),ZU hh]
    ·rw[Qc (λq=>hh (e.1 q)),Yj hh]),Zmo]
 ·unfold ZbO
  rw[Zxy (l:=Gy w),Zxy (l:=GD w)];constructor
  ·rintro ⟨q1,q2,q3,q4,q5,q6,q7⟩
   refine ⟨⟨by omega,by omega⟩,by omega,by omega,q5,λk x hx=>(q6 k x hx).2.2,λk r hr=>?_,λk c hc=>?_,q7⟩
   ·have hk:=(Ub.1 hr).1
    exact (q6 k _ (Ua (by omega))).2.1 r hr
   ·have hk:=(Ub.1 hc).1
    exact (q6 k _ (Ua (by omega))).1 c hc
  ·rintro ⟨q1,q2,q3,q5,q6,q7,q8,q9⟩
   exact ⟨by omega,by omega,by omega,by omega,q5,λk x hx=>⟨λc hc=>q8 k c hc,λr hr=>q7 k r hr,q6 k x hx⟩,q9⟩
def Zm6 (b:Za):Prop :=
 X0 (K4 b) (KZ b)/\(K2 b).length=(K6 (KZ b)).length/\ZfL (K2 b) (λk w=>ZbO w ((sinks (KZ b) (k:Int)).length:Int))
theorem JH {a:Zp} {d:Zb} (h:X0 a d) {x:Pl} (hx:x∈places d):Zb9 d x.2.2.1:=by
 unfold places at hx;rcases UB.1 hx with hx | hx
 ·obtain ⟨i,z,hi,hz⟩:=X8.1 hx
  unfold YH at hz;obtain ⟨j,n,hj,hn⟩:=X8.1 hz;simp only[Uu] at hn;subst hn;exact (h.2.2.1 z (Ue hi)).2.2 n (Ue hj)
 ·obtain ⟨j,p,hj,hp⟩:=X8.1 hx
  simp only[Zba,Uu] at hp;subst hp;exact (h.2.2.2.1 p (Ue hj)).2
theorem JL (b:Za) (hb:sm ZT b):Zbq b=some (tr (Zm6 b)):=by
 obtain ⟨a1,a2,a3⟩:=JK hb;have s3:=Zu a3;unfold Zbq;refine JA (Xc (ZqO _ _ a1 a2) (λhD=>Yq (λq1=>?_))) ?_
  (P:=X0 (K4 b) (KZ b)/\((K2 b).length:Int)=((K6 (KZ b)).length:Int)/\ZfL (K2 b) (λk w=>ZbO w ((sinks (KZ b) (k:Int)).length:Int)))
 ·rw[VL (Qi a3) (λk w=>ZbO w ((sinks (KZ b) (k:Int)).length:Int)) (bad:=false) (good:=true)
   (λk w hx hk _=>by
    simp only[Zfz,show (k:Int)<((K2 b).length:Int) from by omega,Uj,Zm,hx,Bq,XZ _ _ hD.few,ZjL w _ (Zas a3 hx)];constructor
    ·intro hh;rw[Uc (ZU hh)]
    ·intro hh;rw[Ud (λq=>hh ((YS _).1 q))])
   (λ_=>by simp only[Zfz,Uf,Uh]),Zlj]
 ·unfold Zm6
  rw[show ((K2 b).length:Int)=((K6 (KZ b)).length:Int)<->(K2 b).length=(K6 (KZ b)).length from by omega]
theorem Zy7 {l:List Pl} {k:Nat} {x:Pl} (hx:l[k]?=some x) :
  (((l.take (k+1)).filter (λx=>!x.2.2.2.1)).map (λx=>x.2.2.1))=if x.2.2.2.1=true then (((l.take k).filter (λx=>!x.2.2.2.1)).map (λx=>x.2.2.1)) else (((l.take k).filter (λx=>!x.2.2.2.1)).map (λx=>x.2.2.1))++[x.2.2.1]:=by
 rw[Yu hx,List.filter_append,UV];by_cases h:x.2.2.2.1=true
 ·rw[Uc h];simp[h]
 ·rw[Ud h];simp[h]
theorem ZlH (b:Za) (hb:sm ZT b):ZgL b=some (tr (Zm6 b)):=by
 obtain ⟨a1,a2,a3⟩:=JK hb;have s3:=Zu a3;unfold ZgL;refine JA (Xc (Zql _ _ a1 a2) (λhD=>Yq (λq1=>?_))) ?_
  (P:=X0 (K4 b) (KZ b)/\((K2 b).length:Int)=((K6 (KZ b)).length:Int)/\ZfL (K2 b) (λk w=>ZbO w ((sinks (KZ b) (k:Int)).length:Int)))
 ·rw[Zg (by omega),Zg (by omega),Zg (by omega),Zg (by omega),ZN _ hD.few,Bq]
  have hpl:=Z0 hD.few;have:=YK (l:=places (KZ b)) (ρ:=Bool) (λk=>((k:Int),Zqh (K2 b).length ((((places (KZ b)).take k).filter (λx=>!x.2.2.2.1)).map (λx=>x.2.2.1)),())) (step:=λv=>Zck b (places (KZ b)) v.1 v.2.1) (good:=tr (ZfL (K2 b) (λk w=>ZbO w ((sinks (KZ b) (k:Int)).length:Int))))
   (λk x hx hk=>by
    have hn:=JH hD (Ue hx);have hl1:=List.length_filter_le (λx:Pl=>!x.2.2.2.1) ((places (KZ b)).take k);rw[Ui] at hl1;simp only[Zck,show (k:Int)<((places (KZ b)).length:Int) from by omega,Uj,Zm,hx,Bq,Zy7 hx];by_cases hd:x.2.2.2.1=true
    ·rw[Uc hd,Uc hd,Y4 (by omega)]
    ·rw[Ud hd,Ud hd,ZlD hn.1 (by have:=hn.2;show x.2.2.1<_;omega) (by rw[UL];omega) (F:=λo=>some (Sum.inl (Wq ((k:Int)+1),o,()))),Y4 (by omega)])
   (by
    simp only[Zck,Uf,Uh,Um];rw[VL (Qi a3) (λk w=>ZbO w ((sinks (KZ b) (k:Int)).length:Int)) (bad:=.inr false) (good:=.inr true)
     (λk w hx hk _=>by
      have hc:(sinks (KZ b) (k:Int)).length=_:=Zsj (k:Int) (places (KZ b)) 0;simp only[Zff,show (k:Int)<((K2 b).length:Int) from by omega,Uj,Zm,hx,Bq];rw[Zkp hk,Bq,ZmR w _ (Zas a3 hx),Bq,hc];constructor
      ·intro hh;rw[Uc (ZU hh)]
      ·intro hh;rw[Ud (λq=>hh ((YS _).1 q))])
     (λ_=>by simp only[Zff,Uf,Uh])]
    congr 1;by_cases hh:ZfL (K2 b) (λk w=>ZbO w ((sinks (KZ b) (k:Int)).length:Int))
    ·rw[QF hh,ZU hh]
    ·rw[Qc hh,Yj hh])
  rw[Ku,List.filter_nil,Kw,Zt6] at this;exact this
 ·unfold Zm6
  rw[show ((K2 b).length:Int)=((K6 (KZ b)).length:Int)<->(K2 b).length=(K6 (KZ b)).length from by omega]
structure YT (b:Za):Prop where
 ok:Zm6 b
 sm:sm ZT b
theorem Zf5 {α τ ρ:Type} {l:List α} (I:Nat->τ->Prop) (Q:ρ->Prop) {step:τ->Option (τ ⊕ ρ)} {v:τ} (h0:I 0 v)
  (hs:∀ (k:Nat) (x:α) (v:τ),l[k]?=some x->k<l.length->I k v->∃ v',step v=some (.inl v')/\I (k+1) v')
  (hx:∀ v,I l.length v->∃ r,step v=some (.inr r)/\Q r):∃ r,Zq step v=some r/\Q r :=
 ZaD l.length I Q h0 (λk v hk hI=>.inl (hs k l[k] v (Ua hk) hk hI)) hx
theorem Zkn {α:Type} {l:List α} {i:Int} (h0:0<=i) (h1:i<(l.length:Int)):∃ x,atI l i=some x/\x∈l:=by
 obtain ⟨x,h2,h3⟩:=Zvn h0 h1;exact ⟨x,h2,Ue h3⟩
theorem ZA1 {a:Zp} {d:Zb} (h:X0 a d) {x:Pl} (hx:x∈places d):∃ n,Jr d a x=some n:=by
 unfold Jr;split
 ·exact ⟨_,rfl⟩
 ·rename_i hneg
  unfold places at hx;rcases UB.1 hx with hx | hx
  ·obtain ⟨i,z,hi,hz⟩:=X8.1 hx
   unfold YH at hz;obtain ⟨j,n,hj,hn⟩:=X8.1 hz;simp only[Uu] at hn;subst hn;rw[Uw] at hneg;obtain ⟨hc,⟨c,hc1,hc2⟩,_⟩:=h.2.2.1 z (Ue hi);have hj2:=(Ub.1 hj).1;simp only[Gq,ZH.pin,Uw,Zm,hi,Bq];rw[YD hc.1 hc1,Bq];have hp:(K7 c)[j]?=some (K7 c)[j]:=Ua (by omega);rw[hp,Bq];exact ⟨_,rfl⟩
  ·obtain ⟨j,p,hj,hp⟩:=X8.1 hx
   simp only[Zba,Uu] at hp;subst hp;exact absurd (by show (-1:Int)<0;omega) hneg
theorem ZlT {d:Zb} {net y:Int} (h:y∈sinks d net):0<=y/\y<((places d).length:Int):=by
 obtain ⟨k,x,hk,hy⟩:=X8.1 h;have:=(Ub.1 hk).1;unfold Ji at hy;split at hy
 ·split at hy
  ·cases hy
  ·simp only[Uu] at hy;omega
 ·cases hy
theorem ZbO.par {w:Zo} {s:Int} (h:ZbO w s) {k:Nat} {x:Int} (hx:(K3 w)[k]?=some x) (hk:0<k):0<=x/\x<=(k:Int)-1:=(h.2.2.2.2.1 k x hx).2 hk
theorem ZkI {b:Za} (h:YT b) {k:Nat} {w:Zo} (hw:(K2 b)[k]?=some w):∃ r,YW b (k:Int)=some r/\r.length=(K3 w).length:=by
 have hW:=h.ok.2.2 k w hw;have hD:=h.ok.1;have hf:=hD.few;obtain ⟨⟨l1,l8⟩,lr,lc,ls,ht,ar,ac,asn⟩:=hW;have hpl:=Z0 hf;have hsl:=Zbb (k:Int) (places (KZ b)) 0;have hsl2:(sinks (KZ b) (k:Int)).length<=78:=by unfold sinks;omega
 unfold YW;rw[Zm,hw,Bq];unfold ZF;rw[Zg (by simp;omega),Bq,ZN _ hf,Bq,ZaK _ _ hf,Bq];refine Zf5 (l:=sinks (KZ b) (k:Int)) (λm v=>v.1=(m:Int)/\v.2.1.length=(K3 w).length) _ ⟨rfl,by simp;omega⟩ ?_ ?_
 ·rintro m y ⟨i,l,⟨⟩⟩ hy hm ⟨hi,hl⟩
  simp only at hi hl;subst hi;have hz:(Gk w)[m]?=some (Gk w)[m]:=Ua (by omega);generalize (Gk w)[m]=z at hz;have hz2:=asn z (Ue hz);obtain ⟨q,hq1,_⟩:=Zkn (l:=l) hz2.1 (by omega);obtain ⟨hy1,hy2⟩:=ZlT (Ue hy);obtain ⟨p,hp1,hp2⟩:=Zkn hy1 hy2;obtain ⟨c,hc⟩:=ZA1 hD hp2;simp only[Xu,show (m:Int)<((sinks (KZ b) (k:Int)).length:Int) from by omega,Uj,Zm,hy,hz,Bq,hq1,hp1,hc];exact ⟨_,rfl,by rw[Y4 (by omega)],by simp[hl]⟩
 ·rintro ⟨i,l,⟨⟩⟩ ⟨hi,hl⟩
  simp only at hi hl;subst hi;simp only[Xu,Uf,Uh];have:=Zki (σ:=Int×List Int×Unit) (ρ:=(Int×List Int×Unit) ⊕ List Int) (step:=λv=>Qh w v.1 v.2.1) (λv=>(∃ j:Nat,v.1=(j:Int)/\j<(K3 w).length)/\v.2.1.length=(K3 w).length) (λv=>v.1.toNat) (λr=>∃ r',r=.inr r'/\r'.length=(K3 w).length) (v:=(Wq ((l.length:Int)-1),l,()))
   ⟨⟨l.length-1,by show Wq _=_;rw[ZmK (by omega) (by omega)],by omega⟩,hl⟩
   (by
    rintro ⟨i,l,⟨⟩⟩ ⟨⟨j,hj,hj2⟩,hl⟩;simp only at hj hl;subst hj;simp only[Qh];by_cases h0:(0:Int)<(j:Int)
    ·rw[Uc h0]
     have hp:(K3 w)[j]?=some (K3 w)[j]:=Ua (by omega);generalize (K3 w)[j]=p at hp;have hp2:=(ht j p hp).2 (by omega);obtain ⟨q,hq1,_⟩:=Zkn (l:=l) hp2.1 (by omega);have hl2:l[j]?=some l[j]:=Ua (by omega);simp only[Zm,hp,Bq,hq1,hl2];left;refine ⟨_,rfl,⟨⟨j-1,by rw[ZmK (by omega) (by omega)],by omega⟩,by simp[hl]⟩,?_⟩;show (Wq ((j:Int)-1)).toNat<((j:Int)).toNat;rw[ZmK (by omega) (by omega)];omega
    ·rw[Ud h0]
     right;exact ⟨_,rfl,_,rfl,hl⟩)
  obtain ⟨r,h1,r',rfl,h3⟩:=this;exact ⟨r',h1,h3⟩
theorem Zy6 {b:Za} (h:YT b) {v:Nat} {w:Zo} (hw:(K2 b)[v]?=some w):Zdm b (v:Int)=YW b (v:Int):=by
 have hf:=h.ok.1.few;unfold Zdm YW;rw[Zm,hw,Bq,Bq,show XF (GD w)=ZF (GD w) from rfl,Yg _ hf,ZN _ hf,XZ _ _ hf,ZaK _ _ hf];refine UM (Option.bind _) ?_;funext l;rw[Bq,Bq,Bq,Bq];refine UM (λf=>Zq f _) ?_;funext u;obtain ⟨i,l,⟨⟩⟩:=u;simp only[ZiQ,Xu];split
 ·cases atI (sinks (KZ b) (v:Int)) i with
  | none =>
   cases atI (Gk w) i with
   | none=>rfl
   | some z =>
    simp only[Bq,Option.bind_none];cases atI l z<;>rfl
  | some y =>
   cases atI (Gk w) i with
   | none=>rfl
   | some z =>
    simp only[Bq];cases atI l z with
    | none=>rfl
    | some q=>rfl
 ·rfl
def Zpa:List Int->Int
 | []=>0
 | x::r=>x+Zpa r
theorem ZrF:∀ l r:List Int,Zpa (l++r)=Zpa l+Zpa r
 | [],r=>by show Zpa r=0+Zpa r;omega
 | x::l,r=>by
  show x+Zpa (l++r)=x+Zpa l+Zpa r;rw[ZrF l r];omega
theorem Zuq:∀ {l:List Int} {i:Nat} {x:Int} (c:Int),l[i]?=some x->Zpa (l.set i (x+c))=Zpa l+c
 | [],i,x,c,h=>by simp at h
 | y::l,0,x,c,h=>by
  have:y=x:=by simpa using h
  subst this;show y+c+Zpa l=y+Zpa l+c;omega
 | y::l,i+1,x,c,h=>by
  show y+Zpa (l.set i (x+c))=y+Zpa l+c;rw[Zuq c (by simpa using h)];omega
theorem Zup:∀ {l:List Int},(∀ x∈l,0<=x)->0<=Zpa l/\∀ x∈l,x<=Zpa l
 | [],_=>⟨Int.le_refl _,λx hx=>by cases hx⟩
 | y::l,h=>by
  obtain ⟨h1,h2⟩:=Zup (l:=l) λx hx=>h x (List.mem_cons_of_mem _ hx);have hy:=h y KN;refine ⟨by show 0<=y+Zpa l;omega,λx hx=>?_⟩;show x<=y+Zpa l;rcases UT.1 hx with rfl | hx
  ·omega
  ·have:=h2 x hx;omega
theorem ZAy:∀ {l:List Int} {c:Int},(∀ x∈l,x<=c)->Zpa l<=(l.length:Int)*c
 | [],c,_=>by show (0:Int)<=((0:Nat):Int)*c;simp
 | y::l,c,h=>by
  have h1:=ZAy (l:=l) (c:=c) λx hx=>h x (List.mem_cons_of_mem _ hx);have h2:=h y KN;show y+Zpa l<=((l.length+1:Nat):Int)*c;rw[show ((l.length+1:Nat):Int)=(l.length:Int)+1 by omega,Int.add_mul,Int.one_mul];omega
theorem ZpA {l:List Int} {i:Nat} {x y:Int} (h:y∈l.set i x):y=x\/y∈l:=(U4 h).symm
theorem ZvW {a:Zp} {d:Zb} (h:X0 a d) {x:Pl} (hx:x∈places d):∃ n,Jr d a x=some n/\0<=n/\n<=500:=by
 unfold Jr;split
 ·exact ⟨_,rfl,by omega,by omega⟩
 ·rename_i hneg
  unfold places at hx;rcases UB.1 hx with hx | hx
  ·obtain ⟨i,z,hi,hz⟩:=X8.1 hx
   unfold YH at hz;obtain ⟨j,n,hj,hn⟩:=X8.1 hz;simp only[Uu] at hn;subst hn;rw[Uw] at hneg;obtain ⟨hc,⟨c,hc1,hc2⟩,_⟩:=h.2.2.1 z (Ue hi);have hj2:=(Ub.1 hj).1;have hpins:=(h.1.2.1 c (Ue hc1)).2.1;simp only[Gq,ZH.pin,Uw,Zm,hi,Bq];rw[YD hc.1 hc1,Bq];have hp:(K7 c)[j]?=some (K7 c)[j]:=Ua (by omega);rw[hp,Bq];have hb:=(hpins.2.2.2 j _ hp).1;exact ⟨_,rfl,hb.1,hb.2⟩
  ·obtain ⟨j,p,hj,hp⟩:=X8.1 hx
   simp only[Zba,Uu] at hp;subst hp;exact absurd (by show (-1:Int)<0;omega) hneg
theorem ZvS {b:Za} (h:YT b) {k:Nat} {w:Zo} (hw:(K2 b)[k]?=some w):∃ r,YW b (k:Int)=some r/\r.length=(K3 w).length/\∀ x∈r,0<=x/\x<=43000:=by
 have hW:=h.ok.2.2 k w hw;have hD:=h.ok.1;have hf:=hD.few;obtain ⟨⟨l1,l8⟩,lr,lc,ls,ht,ar,ac,asn⟩:=hW;have hpl:=Z0 hf;have hsl:=Zbb (k:Int) (places (KZ b)) 0;have hsl2:(sinks (KZ b) (k:Int)).length<=78:=by unfold sinks;omega
 have hc0:Zpa (GD w)<=4000:=by
  have:=ZAy (l:=GD w) (c:=500) λx hx=>(ac x hx).2;omega
 unfold YW;rw[Zm,hw,Bq];unfold ZF;rw[Zg (by simp;omega),Bq,ZN _ hf,Bq,ZaK _ _ hf,Bq,Us];refine Zf5 (l:=sinks (KZ b) (k:Int)) (λm v=>v.1=(m:Int)/\v.2.1.length=(K3 w).length/\(∀ x∈v.2.1,0<=x)/\Zpa v.2.1<=4000+(m:Int)*500) _ ⟨rfl,by simp;omega,λx hx=>(ac x hx).1,by simp only;omega⟩ ?_ ?_
 ·rintro m y ⟨i,l,⟨⟩⟩ hy hm ⟨hi,hl,hnn,hsum⟩
  simp only at hi hl hnn hsum;subst hi;have hz:(Gk w)[m]?=some (Gk w)[m]:=Ua (by omega);generalize (Gk w)[m]=z at hz;have hz2:=asn z (Ue hz);obtain ⟨q,hq1,hq2⟩:=Zkn (l:=l) hz2.1 (by omega);obtain ⟨hy1,hy2⟩:=ZlT (Ue hy);obtain ⟨p,hp1,hp2⟩:=Zkn hy1 hy2;obtain ⟨c,hc,c0,c5⟩:=ZvW hD hp2;have hq0:=hnn q hq2;have hqs:=(Zup hnn).2 q hq2;have hq3:l[z.toNat]?=some q:=by
   unfold atI at hq1;rw[Uc hz2.1] at hq1;exact hq1
  simp only[Xu,show (m:Int)<((sinks (KZ b) (k:Int)).length:Int) from by omega,Uj,Zm,hy,hz,Bq,hq1,hp1,hc];rw[YZ (n:=q+c) (by omega) (by omega)];refine ⟨_,rfl,by rw[Y4 (by omega)],by simp[hl],λx hx=>?_,?_⟩
  ·rcases ZpA hx with rfl | hx
   ·omega
   ·exact hnn x hx
  ·simp only
   rw[Zuq c hq3];omega
 ·rintro ⟨i,l,⟨⟩⟩ ⟨hi,hl,hnn,hsum⟩
  simp only at hi hl hnn hsum;subst hi;simp only[Xu,Uf,Uh];have hT:Zpa l<=43000:=by omega
  have hall:∀ x∈l,0<=x/\x<=43000:=λx hx=>⟨hnn x hx,by have:=(Zup hnn).2 x hx;omega⟩;have:=Zki (σ:=Int×List Int×Unit) (ρ:=(Int×List Int×Unit) ⊕ List Int) (step:=λv=>Qh w v.1 v.2.1) (λv=>(∃ j:Nat,v.1=(j:Int)/\j<(K3 w).length/\Zpa (v.2.1.take (j+1))<=43000)/\v.2.1.length=(K3 w).length/\∀ x∈v.2.1,0<=x/\x<=43000) (λv=>v.1.toNat) (λr=>∃ r',r=.inr r'/\r'.length=(K3 w).length/\∀ x∈r',0<=x/\x<=43000) (v:=(Wq ((l.length:Int)-1),l,()))
   ⟨⟨l.length-1,by show Wq _=_;rw[ZmK (by omega) (by omega)],by omega,by simp only;rw[Kt (by omega)];exact hT⟩,hl,hall⟩
   (by
    rintro ⟨i,l,⟨⟩⟩ ⟨⟨j,hj,hj2,hjs⟩,hl,hall⟩;simp only at hj hl hjs hall;subst hj;simp only[Qh];by_cases h0:(0:Int)<(j:Int)
    ·rw[Uc h0]
     have hp:(K3 w)[j]?=some (K3 w)[j]:=Ua (by omega);generalize (K3 w)[j]=p at hp;have hp2:=(ht j p hp).2 (by omega);obtain ⟨q,hq1,hq2⟩:=Zkn (l:=l) hp2.1 (by omega);have hq3:l[p.toNat]?=some q:=by
      unfold atI at hq1;rw[Uc hp2.1] at hq1;exact hq1
     have hl2:l[j]?=some l[j]:=Ua (by omega);generalize l[j]=y at hl2;have hy:=hall y (Ue hl2);have hq:=hall q hq2;simp only[Zm,hp,Bq,hq1,hl2];rw[YZ (n:=q+y) (by omega) (by omega)];have hqt:(l.take j)[p.toNat]?=some q:=by rw[UA,Uc (by omega)];exact hq3
     have hnew:Zpa ((l.set p.toNat (q+y)).take j)<=43000:=by
      rw[List.take_set,Zuq y hqt];rw[Yu hl2,ZrF] at hjs;have:Zpa [y]=y:=by show y+0=y;omega
      omega
     have hnn2:∀ x∈(l.set p.toNat (q+y)).take j,0<=x:=λx hx=>by
      rcases ZpA (List.mem_of_mem_take hx) with rfl | hx
      ·omega
      ·exact (hall x hx).1
     have hqy:q+y<=43000:=by
      have hmem:q+y∈(l.set p.toNat (q+y)).take j:=by
       refine Ue (i:=p.toNat) ?_;rw[UA,Uc (by omega),Ut (by omega)]
      have:=(Zup hnn2).2 _ hmem;omega
     left;refine ⟨_,rfl,⟨⟨j-1,by rw[ZmK (by omega) (by omega)],by omega,?_⟩,by simp[hl],λx hx=>?_⟩,?_⟩
     ·simp only
      rw[show j-1+1=j by omega];exact hnew
     ·rcases ZpA hx with rfl | hx
      ·exact ⟨by omega,hqy⟩
      ·exact hall x hx
     ·show (Wq ((j:Int)-1)).toNat<((j:Int)).toNat
      rw[ZmK (by omega) (by omega)];omega
    ·rw[Ud h0]
     right;exact ⟨_,rfl,_,rfl,hl,hall⟩)
  obtain ⟨r,h1,r',rfl,h3⟩:=this;exact ⟨r',h1,h3⟩
theorem Zlh {a b A B:Int} (h1:0<=a) (h2:a<=A) (h3:0<=b) (h4:b<=B):0<=a*b/\a*b<=A*B :=
 ⟨Int.mul_nonneg h1 h3,Int.mul_le_mul h2 h4 h3 (by omega)⟩
theorem Zr7 {y p M:Int} (h1:-M<=y) (h2:y<=M) (h3:0<=p):-(M*p)<=y*p/\y*p<=M*p:=by
 have a:=Int.mul_le_mul_of_nonneg_right h1 h3;have b:=Int.mul_le_mul_of_nonneg_right h2 h3;rw[Int.neg_mul] at a;exact ⟨a,b⟩
def dlF (w:Zo) (ld:List Int):Nat->List Int
 | 0=>[0]
 | m+1=>dlF w ld m++[((dlF w ld m)[(((K3 w)[m+1]?).getD 0).toNat]?).getD 0+(((Gy w)[m+1]?).getD 0)*((ld[m+1]?).getD 0)]
theorem Znf (w:Zo) (ld:List Int):∀ m,(dlF w ld m).length=m+1
 | 0=>rfl
 | m+1=>by show (dlF w ld m++[_]).length=_;rw[Ug,Znf w ld m];rfl
theorem ZwP {l:List Int} {lo hi:Int} (h:∀ x∈l,lo<=x/\x<=hi) (h1:lo<=0) (h2:0<=hi) (i:Nat):lo<=(l[i]?).getD 0/\(l[i]?).getD 0<=hi:=by
 cases e:l[i]? with
 | none=>exact ⟨h1,h2⟩
 | some x=>exact h x (Ue e)
theorem ZAb {w:Zo} {ld:List Int} (hr:∀ x∈Gy w,0<=x/\x<=1000) (hl:∀ x∈ld,0<=x/\x<=43000):∀ m,∀ x∈dlF w ld m,0<=x/\x<=(m:Int)*43000000
 | 0,x,hx=>by
  have:x=0:=by simpa[dlF] using hx
  subst this;omega
 | m+1,x,hx=>by
  have hm:=ZAb hr hl m;rcases UB.1 (show x∈dlF w ld m++[_] from hx) with hx | hx
  ·have:=hm x hx;omega
  ·rw[Uu.1 hx]
   have a:=ZwP hm (by omega) (by omega) (((K3 w)[m+1]?).getD 0).toNat;have b:=ZwP hr (by omega) (by omega) (m+1);have c:=ZwP hl (by omega) (by omega) (m+1);have d:=Zlh b.1 b.2 c.1 c.2;omega
structure Zww (b:Za) (k:Nat) (w:Zo) (ld:List Int):Prop where
 wire:(K2 b)[k]?=some w
 n1:1<=(K3 w).length
 n8:(K3 w).length<=8
 nr:(Gy w).length=(K3 w).length
 nl:ld.length=(K3 w).length
 par:∀ (m:Nat),m+1<(K3 w).length->∃ p,(K3 w)[m+1]?=some p/\0<=p/\p<=(m:Int)
 res:∀ x∈Gy w,0<=x/\x<=1000
 lds:∀ x∈ld,0<=x/\x<=43000
 snk:∀ x∈Gk w,0<=x/\x<=((K3 w).length:Int)-1
 few:(Gk w).length<=1048576
 prog:YW b (k:Int)=some ld
 ref:Zdm b (k:Int)=some ld
theorem ZK0 {b:Za} (h:YT b) {k:Nat} {w:Zo} (hw:(K2 b)[k]?=some w):∃ ld,Zww b k w ld:=by
 have hW:=h.ok.2.2 k w hw;obtain ⟨⟨l1,l8⟩,lr,lc,ls,ht,ar,ac,asn⟩:=hW;obtain ⟨nl,hnl,hnl2,hbd⟩:=ZvS h hw;have hsm:=Zu (Zm4 (Zas (JK h.sm).2.2 hw)).2.2.2;refine ⟨nl,hw,l1,l8,lr,hnl2,λm hm=>?_,ar,hbd,asn,by omega,hnl,by rw[Zy6 h hw,hnl]⟩;have hp:(K3 w)[m+1]?=some ((K3 w)[m+1]'hm):=Ua _;have:=(ht (m+1) _ hp).2 (by omega);exact ⟨_,hp,this.1,by omega⟩
def ndl (w:Zo) (ld:List Int):List Int:=dlF w ld ((K3 w).length-1)
theorem Zww.len {b:Za} {k:Nat} {w:Zo} {ld:List Int} (h:Zww b k w ld):(ndl w ld).length=(K3 w).length:=by
 have:=h.n1;unfold ndl;rw[Znf];omega
theorem Zww.bd {b:Za} {k:Nat} {w:Zo} {ld:List Int} (h:Zww b k w ld):∀ x∈ndl w ld,0<=x/\x<=301000000:=λx hx=>by
 have:=ZAb h.res h.lds _ x hx;have:=h.n1;have:=h.n8;omega
theorem Zww.step {b:Za} {k:Nat} {w:Zo} {ld:List Int} (h:Zww b k w ld) {m:Nat} (hm:m+1<(K3 w).length) :
  ∃ p r l q,(K3 w)[m+1]?=some p/\(Gy w)[m+1]?=some r/\ld[m+1]?=some l/\0<=p/\p<=(m:Int)/\(dlF w ld m)[p.toNat]?=some q/\Wq (q+Wq (r*l))=q+r*l/\dlF w ld (m+1)=dlF w ld m++[q+r*l]:=by
 obtain ⟨p,hp,p0,p1⟩:=h.par m hm;have hr:(Gy w)[m+1]?=some ((Gy w)[m+1]'(by have:=h.nr;omega)):=Ua _;have hl:ld[m+1]?=some (ld[m+1]'(by have:=h.nl;omega)):=Ua _;have hq:(dlF w ld m)[p.toNat]?=some ((dlF w ld m)[p.toNat]'(by rw[Znf];omega)):=Ua _;have b1:=h.res _ (Ue hr);have b2:=h.lds _ (Ue hl);have b3:=ZAb h.res h.lds m _ (Ue hq);generalize (Gy w)[m+1]'(by have:=h.nr;omega)=r at *;generalize ld[m+1]'(by have:=h.nl;omega)=l at *;generalize (dlF w ld m)[p.toNat]'(by rw[Znf];omega)=q at *;have b4:=Zlh b1.1 b1.2 b2.1 b2.2;have:=h.n8;refine ⟨p,r,l,q,hp,hr,hl,p0,p1,hq,by rw[YZ (n:=r*l) (by omega) (by omega),YZ (by omega) (by omega)],?_⟩;show dlF w ld m++[_]=_;rw[hp,hr,hl];simp only[UJ];rw[hq];rfl
theorem Zsq {b:Za} {k:Nat} {w:Zo} {ld:List Int} (h:Zww b k w ld):ZdT b (k:Int)=some (ndl w ld):=by
 have hn:=h.nl;have h1:=h.n1;have h8:=h.n8;unfold ZdT;rw[Zm,h.wire,Bq,h.ref,Bq];refine Yy ((K3 w).length-1) (λm v=>v=(dlF w ld m,((m+1:Nat):Int),())) _ rfl ?_ ?_
 ·rintro m _ hm rfl
  obtain ⟨p,r,l,q,e1,e2,e3,p0,p1,e4,e5,e6⟩:=h.step (m:=m) (by omega);have e4':atI (dlF w ld m) p=some q:=YD p0 e4;simp only[ZdJ,show ((m+1:Nat):Int)<(ld.length:Int) from by omega,Uj,Zm,e1,e2,e3,e4',Bq,e5];rw[Zg (by rw[Znf];simp only[Uz,Ux];omega),Y4 (by omega)];exact .inl ⟨_,rfl,by rw[e6]⟩
 ·rintro _ rfl
  simp only[ZdJ,show ¬(((K3 w).length-1+1:Nat):Int)<(ld.length:Int) from by omega,Uh];rfl
theorem ZwR {b:Za} {k:Nat} {w:Zo} {ld:List Int} (h:Zww b k w ld):QH b (k:Int)=some (ndl w ld):=by
 have hn:=h.nl;have h1:=h.n1;have h8:=h.n8;unfold QH;rw[Zm,h.wire,Bq,h.prog,Bq,Zg (by omega),Zg (by omega),Zg (by omega),Zg (by omega)];refine Yy ((K3 w).length-1) (λm v=>v=(((m+1:Nat):Int),dlF w ld m++List.replicate ((K3 w).length-1-m) (0:Int),())) _ ?_ ?_ ?_
 ·rw[Up,hn]
  simp only[Prod.mk.injEq,and_true];refine ⟨rfl,?_⟩;show List.replicate (K3 w).length (0:Int)=[0]++List.replicate ((K3 w).length-1-0) 0;rw[show (K3 w).length=((K3 w).length-1)+1 by omega,KA];simp
 ·rintro m _ hm rfl
  obtain ⟨p,r,l,q,e1,e2,e3,p0,p1,e4,e5,e6⟩:=h.step (m:=m) (by omega);have hlen:=Znf w ld m;have e4':atI (dlF w ld m++List.replicate ((K3 w).length-1-m) (0:Int)) p=some q:=YD p0 (by rw[Uq (by omega)];exact e4);have e7:(dlF w ld m++List.replicate ((K3 w).length-1-m) (0:Int))[m+1]?=some 0:=by
   rw[Uv (by omega),hlen,Kc,Uc (by omega)]
  have hl2:(dlF w ld m++List.replicate ((K3 w).length-1-m) (0:Int)).length=(K3 w).length:=by
   rw[Ug,UW];omega
  simp only[XQ,hl2,show ((m+1:Nat):Int)<((K3 w).length:Int) from by omega,Uj,Zm,e1,e2,e3,e4',e7,Bq,e5];rw[Y4 (by omega)];refine .inl ⟨_,rfl,?_⟩;simp only[Prod.mk.injEq,and_true,true_and,Up];rw[e6,List.set_append_right _ _ (by omega),hlen,show (K3 w).length-1-m=((K3 w).length-1-(m+1))+1 by omega,KA,KD,List.set_cons_zero,Ul];rfl
 ·rintro _ rfl
  have hl2:(dlF w ld ((K3 w).length-1)++List.replicate ((K3 w).length-1-((K3 w).length-1)) (0:Int)).length=(K3 w).length:=by
   rw[Ug,UW,Znf];omega
  simp only[XQ,hl2,show ¬(((K3 w).length-1+1:Nat):Int)<((K3 w).length:Int) from by omega,Uh];rw[KD,List.replicate_zero,Uo];rfl
theorem ZDx {l:List Int} (h:Inc l) {i:Nat} {x:Int} (hx:l[i]?=some x):∀ (m:Nat) (y:Int),l[i+m+1]?=some y->x<y
 | 0,y,hy=>h i x y hx hy
 | m+1,y,hy=>by
  have hl:=(Ub.1 hy).1;have hz:l[i+m+1]?=some (l[i+m+1]'(by omega)):=Ua _;have h1:=ZDx h hx m _ hz;have h2:=h (i+m+1) _ y hz hy;omega
theorem Zo6 {l:List Int} (h:Inc l) {i j:Nat} {x y:Int} (hij:i<j) (hx:l[i]?=some x) (hy:l[j]?=some y):x<y :=
 ZDx h hx (j-i-1) y (by rw[show i+(j-i-1)+1=j by omega];exact hy)
def On (l:List Int) (x:Int) (j:Nat):Prop:=l[j]?=some x
def Btw (l:List Int) (x:Int) (j:Nat) (y z:Int):Prop:=l[j]?=some y/\l[j+1]?=some z/\y<x/\x<z
theorem ZGD {l:List Int} {x a c:Int} (h0:l[0]?=some a) (h1:l[l.length-1]?=some c) (hx0:a<=x) (hx1:x<=c):(∃ j,On l x j)\/∃ j y z,Btw l x j y z:=by
 have key:∀ (k:Nat) (y:Int),l[k]?=some y->y<=x\/((∃ j,On l x j)\/∃ j y z,Btw l x j y z):=by
  intro k;induction k with
  | zero =>
   intro y hy;rw[h0] at hy;injection hy with hy
   exact .inl (by omega)
  | succ k ih =>
   intro y hy;have hl:=(Ub.1 hy).1;have hz:l[k]?=some (l[k]'(by omega)):=Ua _;rcases ih _ hz with q | q
   ·by_cases w:y<=x
    ·exact .inl w
    ·right
     by_cases e:l[k]'(by omega)=x
     ·exact .inl ⟨k,by unfold On;rw[hz,e]⟩
     ·exact .inr ⟨k,_,y,hz,hy,by omega,by omega⟩
   ·exact .inr q
 rcases key _ c h1 with q | q
 ·exact .inl ⟨l.length-1,by unfold On;rw[h1];congr 1;omega⟩
 ·exact q
structure Fst (l:List Int) (x:Int) (p:Nat):Prop where
 le:p<=l.length
 low:∀ (i:Nat) (y:Int),i<p->l[i]?=some y->y<x
 up:∀ (i:Nat) (y:Int),p<=i->l[i]?=some y->x<=y
theorem Fst.on {l:List Int} {x:Int} {p j:Nat} (h:Fst l x p) (hi:Inc l) (hj:On l x j):p=j:=by
 have hjl:=(Ub.1 hj).1;rcases Nat.lt_trichotomy p j with q | q | q
 ·have hp:l[p]?=some (l[p]'(by omega)):=Ua _
  have h1:=Zo6 hi q hp hj;have h2:=h.up p _ (UK _) hp;omega
 ·exact q
 ·have:=h.low j x q hj
  omega
theorem Fst.btw {l:List Int} {x:Int} {p j:Nat} {y z:Int} (h:Fst l x p) (hi:Inc l) (hj:Btw l x j y z):p=j+1:=by
 obtain ⟨h1,h2,h3,h4⟩:=hj;have hjl:=(Ub.1 h2).1;rcases Nat.lt_trichotomy p (j+1) with q | q | q
 ·have:=h.up j y (by omega) h1
  omega
 ·exact q
 ·have:=h.low (j+1) z q h2
  omega
theorem ZBZ {ρ:Type} {l:List Int} {x:Int} (hi:Inc l) {step:Int×Int×Unit->Option ((Int×Int×Unit) ⊕ ρ)} {good:Nat->ρ}
  (h1:∀ (i j:Nat) (y:Int),i<j->j<=l.length->l[(i+j) / 2]?=some y->step ((i:Int),(j:Int),())=some (.inl (if y<x then (((i+j) / 2+1:Nat):Int) else (i:Int),if y<x then (j:Int) else (((i+j) / 2:Nat):Int),())))
  (h2:∀ i:Nat,i<=l.length->step ((i:Int),(i:Int),())=some (.inr (good i))):∃ p,Fst l x p/\Zq step ((0:Int),(l.length:Int),())=some (good p):=by
 obtain ⟨r,e,p,rfl,hp⟩:=Zki (step:=step) (v:=((0:Int),(l.length:Int),())) (λv=>∃ i j:Nat,v=((i:Int),(j:Int),())/\i<=j/\j<=l.length/\(∀ (k:Nat) (y:Int),k<i->l[k]?=some y->y<x)/\∀ (k:Nat) (y:Int),j<=k->l[k]?=some y->x<=y) (λv=>(v.2.1-v.1).toNat) (λr=>∃ p,r=good p/\Fst l x p)
  ⟨0,l.length,rfl,by omega,UK _,λk y hk=>by omega,λk y hk hy=>by have:=(Ub.1 hy).1;omega⟩ (by
   rintro _ ⟨i,j,rfl,hij,hj,hlo,hup⟩;by_cases c:i<j
   ·left
    have hy:l[(i+j) / 2]?=some (l[(i+j) / 2]'(by omega)):=Ua _;generalize l[(i+j) / 2]'(by omega)=y at hy;refine ⟨_,h1 i j y c hj hy,?_,?_⟩
    ·by_cases d:y<x
     ·refine ⟨(i+j) / 2+1,j,by rw[Uc d,Uc d],by omega,hj,λk z hk hz=>?_,hup⟩
      by_cases w:k=(i+j) / 2
      ·subst w;rw[hy] at hz;injection hz with hz;omega
      ·have:=Zo6 hi (by omega) hz hy;omega
     ·refine ⟨i,(i+j) / 2,by rw[Ud d,Ud d],by omega,by omega,hlo,λk z hk hz=>?_⟩
      by_cases w:k=(i+j) / 2
      ·subst w;rw[hy] at hz;injection hz with hz;omega
      ·have:=Zo6 hi (by omega) hy hz;omega
    ·by_cases d:y<x
     ·rw[Uc d,Uc d];simp only;omega
     ·rw[Ud d,Ud d];simp only;omega
   ·right
    have:i=j:=by omega
    subst this;exact ⟨_,h2 i hj,i,rfl,hj,hlo,hup⟩)
 exact ⟨p,hp,e⟩
structure ZG6 (l:List Int) (j a b:Int):Prop where
 j0:0<=j
 jl:j<l.length
 jb:0<b->j+1<l.length
 a0:0<a
 b0:0<=b
 ab:a+b<=100000
def wl (j a b:Int):List Zca:=if b=0 then [(j,a,())] else [(j,a,()),(j+1,b,())]
theorem ZEe {i j:Nat} (h:i+j<=100):Wq (Int.fdiv (IntKind.wrap IntKind.u64 (Wq ((i:Int)+(j:Int)))) ((2:Int) ^ Min.min (Int.toNat (1:Int)) (IntKind.bits IntKind.u64)))=(((i+j) / 2:Nat):Int):=by
 rw[YZ (n:=(i:Int)+(j:Int)) (by omega) (by omega),show IntKind.wrap IntKind.u64 ((i:Int)+(j:Int))=(i:Int)+(j:Int) from IntWalk.u64_in _ (by omega),show ((2:Int) ^ Min.min (Int.toNat (1:Int)) (IntKind.bits IntKind.u64))=2 from by decide,Int.fdiv_eq_ediv_of_nonneg _ (by omega),YZ (by omega) (by omega)];omega
theorem ZEm (x y:Int):Zgh x y=some (decide (x<y)):=by
 unfold Zgh Ze5;rw[Bq,UX (show x=x from rfl)];rfl
theorem ZGt (x:Int):Zar x=some false:=by
 unfold Zar;rw[UX (show x=x from rfl)];rfl
theorem ZBc {l:List Int} (hi:Inc l) (hl:l.length<=4) (x:Int):∃ p,Fst l x p/\XP l x=some ((p:Int),decide (l[p]?=some x)):=by
 unfold XP;refine ZBZ (x:=x) (good:=λp=>((p:Int),decide (l[p]?=some x))) hi (λi j y hij hj hy=>?_) (λi hi=>?_)
 ·simp only[Qd,show (i:Int)<(j:Int) from by omega,Uj,ZEe (show i+j<=100 by omega),Zm,hy,Bq,ZEm,Uk,Y4 (show (i+j) / 2<=1048576 by omega)]
  by_cases c:y<x
  ·rw[Uc c,Uc c,Uc c]
  ·rw[Ud c,Ud c,Ud c]
 ·simp only[Qd,Uf,Uh]
  by_cases c:i<l.length
  ·have hy:l[i]?=some l[i]:=Ua c
   generalize l[i]=y at hy;rw[Uc (show (i:Int)<(l.length:Int) by omega),Zm,hy,Bq];by_cases e:y=x
   ·rw[Uc e,UX (by rw[e])]
   ·rw[Ud e,ZGt,Bq,Ud (by simp),decide_eq_false (by rw[Option.some.injEq];exact e)]
  ·rw[Ud (show ¬(i:Int)<(l.length:Int) by omega),UC (by omega)]
   rfl
theorem ZtV {l:List Int} (h:Zhg l) (x:Int):∃ j a b,ZG6 l j a b/\ZcV l x=some (j,a,b)/\ZgN l x=some (wl j a b,a+b):=by
 obtain ⟨l1,l4,hin,hi⟩:=h;have h0:l[0]?=some (l[0]'(by omega)):=Ua _;have hn:l[l.length-1]?=some (l[l.length-1]'(by omega)):=Ua _;generalize l[0]'(by omega)=x1 at h0;generalize l[l.length-1]'(by omega)=x2 at hn;have h12:x1<=x2:=by
  by_cases q:l.length=1
  ·rw[q] at hn
   rw[h0] at hn;injection hn with hn
   omega
  ·have:=Zo6 hi (show 0<l.length-1 by omega) h0 hn
   omega
 have bd:∀ {j:Nat} {y:Int},l[j]?=some y->0<=y/\y<=100000:=λ{j y} hy=>hin y (Ue hy);have b1:=bd h0;have b2:=bd hn;have a0:atI l 0=some x1:=YD (Int.le_refl _) h0;have an:atI l (Wq ((↑(List.length l):Int)-(1:Int)))=some x2:=by
  rw[YZ (by omega) (by omega)];exact YD (by omega) (by rw[<-hn];congr 1;omega)
 unfold ZcV ZgN;simp only[a0,an,Bq];have hc1:x1<=Min.min (Max.max x x1) x2:=by omega
 have hc2:Min.min (Max.max x x1) x2<=x2:=by omega
 have hd:∀ (i0:Int),Zat l x x1 x2 i0=if (0:Int)<=i0 then
   (atI l i0).bind λx3 =>
   if Min.min (Max.max x x1) x2=x3 then
    some (.inr (i0,(1:Int),(0:Int)))
   else
    if x3<Min.min (Max.max x x1) x2 then
     (atI l (Wq (i0+(1:Int)))).bind λx4 =>
     some (.inr (i0,Wq (x4-Min.min (Max.max x x1) x2),Wq (Min.min (Max.max x x1) x2-x3)))
    else
     some (.inl (Wq (i0-(1:Int)),()))
  else
   some (.inr ((0:Int),(1:Int),(0:Int))):=λi0=>rfl
 generalize Min.min (Max.max x x1) x2=c at hc1 hc2 hd ⊢;obtain ⟨p,hp,hs⟩:=ZBc hi l4 c;rw[hs,Bq];rcases ZGD h0 hn hc1 hc2 with ⟨j,hj⟩ | ⟨j,y,z,hj⟩
 ·have hjl:=(Ub.1 hj).1
  have hpj:=hp.on hi hj;subst hpj;refine ⟨(p:Int),1,0,⟨by omega,by omega,λq=>by omega,by omega,by omega,by omega⟩,?_,?_⟩
  ·have key:∀ (r:Nat),p+r<l.length->Zq (λv=>Zat l x x1 x2 v.1) (((p+r:Nat):Int),())=some ((p:Int),(1:Int),(0:Int)):=by
    intro r;induction r with
    | zero =>
     intro hr;refine Xn ?_;simp only[hd,Kd,show (0:Int)<=(p:Int) from by omega,Uj,Zm];rw[hj,Bq,Uc rfl]
    | succ r ih =>
     intro hr;have hy:l[p+(r+1)]?=some (l[p+(r+1)]'hr):=Ua _;generalize l[p+(r+1)]'hr=y at hy;have hlt:=Zo6 hi (show p<p+(r+1) by omega) hj hy;refine (Xq ?_).trans (ih (by omega));simp only[hd,show (0:Int)<=((p+(r+1):Nat):Int) from by omega,Uj,Zm,hy,Bq];rw[Ud (by omega),Ud (by omega),YZ (by omega) (by omega),show ((p+(r+1):Nat):Int)-1=((p+r:Nat):Int) by omega]
   have:=key (l.length-1-p) (by omega);rw[show p+(l.length-1-p)=l.length-1 by omega] at this;rw[YZ (by omega) (by omega),show (l.length:Int)-1=((l.length-1:Nat):Int) by omega];exact this
  ·rw[Uc (UX (show l[p]?=some c from hj))]
   rfl
 ·obtain ⟨h1,h2,h3,h4⟩:=hj
  have hjl:=(Ub.1 h2).1;have hpj:=hp.btw hi ⟨h1,h2,h3,h4⟩;subst hpj;have by1:=bd h1;have bz1:=bd h2;have hne:¬l[j+1]?=some c:=λq=>by rw[h2] at q;injection q with q;omega
  refine ⟨(j:Int),z-c,c-y,⟨by omega,by omega,λq=>by omega,by omega,by omega,by omega⟩,?_,?_⟩
  ·have key:∀ (r:Nat),j+r<l.length->Zq (λv=>Zat l x x1 x2 v.1) (((j+r:Nat):Int),())=some ((j:Int),z-c,c-y):=by
    intro r;induction r with
    | zero =>
     intro hr;refine Xn ?_;simp only[hd,Kd,show (0:Int)<=(j:Int) from by omega,Uj,Zm];rw[h1,Bq,Ud (by omega),Uc h3,Y4 (show j<=1048576 by omega),Zm,h2,Bq,YZ (by omega) (by omega),YZ (by omega) (by omega)]
    | succ r ih =>
     intro hr;have hw:l[j+(r+1)]?=some (l[j+(r+1)]'hr):=Ua _;generalize l[j+(r+1)]'hr=w at hw;have hlt:z<=w:=by
      by_cases q:r=0
      ·subst q;rw[h2] at hw;injection hw with hw;omega
      ·have:=Zo6 hi (show j+1<j+(r+1) by omega) h2 hw;omega
     refine (Xq ?_).trans (ih (by omega));simp only[hd,show (0:Int)<=((j+(r+1):Nat):Int) from by omega,Uj,Zm,hw,Bq];rw[Ud (by omega),Ud (by omega),YZ (by omega) (by omega),show ((j+(r+1):Nat):Int)-1=((j+r:Nat):Int) by omega]
   have:=key (l.length-1-j) (by omega);rw[show j+(l.length-1-j)=l.length-1 by omega] at this;rw[YZ (by omega) (by omega),show (l.length:Int)-1=((l.length-1:Nat):Int) by omega];exact this
  ·rw[Ud (by rw[Uk];exact hne),Zm,h2,Bq,YZ (n:=((j+1:Nat):Int)-1) (by omega) (by omega),show ((j+1:Nat):Int)-1=(j:Int) by omega,Zm,h1,Bq,YZ (by omega) (by omega),YZ (by omega) (by omega),YZ (by omega) (by omega)]
   unfold wl;rw[Ud (by omega)];simp only[Option.some.injEq,Prod.mk.injEq];refine ⟨?_,by omega⟩;rw[show ((j+1:Nat):Int)=(j:Int)+1 by omega]
theorem Zks (a b m:Int):ZcE a b m=Xe a b m:=by
 unfold ZcE Xe;by_cases hb:b≠0
 ·rw[Zg hb,Zg hb]
  by_cases h1:Int.tmod a b<0
  ·have h2:¬(0:Int)<Int.tmod a b:=by omega
   by_cases m0:m=0
   ·subst m0;simp only[h1,Uj]
   ·by_cases m1:m=1
    ·subst m1;simp[h1,h2]
    ·simp only[h1,h2,m0,m1,Uj,Uh]
  ·by_cases h2:(0:Int)<Int.tmod a b
   ·by_cases m0:m=0
    ·subst m0;simp[h1,h2]
    ·by_cases m1:m=1
     ·subst m1;simp[h1,h2]
     ·simp only[h1,h2,m0,m1,Uj,Uh]
   ·by_cases m0:m=0
    ·subst m0;simp[h1,h2]
    ·by_cases m1:m=1
     ·subst m1;simp[h1,h2]
     ·simp only[h1,h2,m0,m1,Uj,Uh]
 ·simp only[Zt,Ud hb]
theorem Zua {a b m:Int} (hb:0<b) (ha:-4000000000000000000<=a) (ha2:a<=4000000000000000000) (hm:m=0\/m=1):∃ r,Xe a b m=some r/\∀ M:Int,0<=M->M*b<=4000000000000000000->(a<=M*b->r<=M)/\(-(M*b)<=a->-M<=r)/\(0<=a->0<=r):=by
 have e:=Int.mul_tdiv_add_tmod a b;have m1:=Int.tmod_lt_of_pos a hb;have m2:=Int.lt_tmod_of_pos a hb;have up:∀ M:Int,a<=M*b->Int.tdiv a b<=M/\(0<Int.tmod a b->Int.tdiv a b+1<=M):=λM h=>by
  constructor
  ·refine UU λq=>?_
   have:=KH (show M+1<=Int.tdiv a b by omega) (show 0<=b by omega);rw[Int.mul_add,Int.mul_one,Int.mul_comm b M] at this;omega
  ·intro h2
   refine UU λq=>?_;have:=KH (show M<=Int.tdiv a b by omega) (show 0<=b by omega);rw[Int.mul_comm b M] at this;omega
 have lo:∀ M:Int,-(M*b)<=a->-M<=Int.tdiv a b/\(Int.tmod a b<0->-M<=Int.tdiv a b-1):=λM h=>by
  constructor
  ·refine UU λq=>?_
   have:=KH (show Int.tdiv a b<=-(M+1) by omega) (show 0<=b by omega);rw[Int.mul_neg,Int.mul_add,Int.mul_one,Int.mul_comm b M] at this;omega
  ·intro h2
   refine UU λq=>?_;have:=KH (show Int.tdiv a b<=-M by omega) (show 0<=b by omega);rw[Int.mul_neg,Int.mul_comm b M] at this;omega
 have big:Int.tdiv a b<=4000000000000000000/\-4000000000000000000<=Int.tdiv a b:=by
  have h1:(4000000000000000000:Int)<=4000000000000000000*b:=by omega
  have:=up 4000000000000000000 (by omega);have:=lo 4000000000000000000 (by omega);omega
 have nn:0<=a->0<=Int.tdiv a b/\¬Int.tmod a b<0:=λh=>by
  have:=Int.tmod_nonneg b h;have:=Int.tdiv_nonneg h (show 0<=b by omega);omega
 unfold Xe;rw[Zg (by omega),YZ (n:=Int.tdiv a b) (by omega) (by omega)];by_cases h1:Int.tmod a b<0
 ·rw[Uc h1]
  by_cases m0:m=0
  ·rw[Uc m0,YZ (by omega) (by omega)]
   refine ⟨_,rfl,λM h0 hM=>⟨λh=>?_,λh=>?_,λh=>absurd h1 (nn h).2⟩⟩
   ·have:=(up M h).1;omega
   ·exact (lo M h).2 h1
  ·rw[Ud m0,Ud (show ¬(0:Int)<Int.tmod a b by omega)]
   exact ⟨_,rfl,λM h0 hM=>⟨λh=>(up M h).1,λh=>(lo M h).1,λh=>(nn h).1⟩⟩
 ·rw[Ud h1]
  by_cases h2:(0:Int)<Int.tmod a b
  ·rw[Uc h2]
   by_cases m1':m=1
   ·rw[Uc m1',YZ (by omega) (by omega)]
    refine ⟨_,rfl,λM h0 hM=>⟨λh=>(up M h).2 h2,λh=>?_,λh=>?_⟩⟩
    ·have:=(lo M h).1;omega
    ·have:=(nn h).1;omega
   ·rw[Ud m1']
    exact ⟨_,rfl,λM h0 hM=>⟨λh=>(up M h).1,λh=>(lo M h).1,λh=>(nn h).1⟩⟩
  ·rw[Ud h2]
   exact ⟨_,rfl,λM h0 hM=>⟨λh=>(up M h).1,λh=>(lo M h).1,λh=>(nn h).1⟩⟩
def Zqg (t:Zw) (i k:Int):Int:=(atI (Gr t) (i*((Gt t).length:Int)+k)).getD 0
def tm (t:Zw) (i k a c:Int):Int:=if 0<a*c then Zqg t i k*(a*c) else 0
theorem Zu1 {t:Zw} (h:Jz t) {i k:Int} (i0:0<=i) (i1:i<(GM t).length) (k0:0<=k) (k1:k<(Gt t).length) :
  atI (Gr t) (i*((Gt t).length:Int)+k)=some (Zqg t i k)/\(-1000000<=Zqg t i k/\Zqg t i k<=1000000)/\0<=i*((Gt t).length:Int)/\i*((Gt t).length:Int)<=16:=by
 obtain ⟨h1,h2,h3,h4⟩:=h;have b:=Zlh i0 (show i<=4 by have:=h1.2.1;omega) (show (0:Int)<=((Gt t).length:Int) by omega) (show ((Gt t).length:Int)<=4 by have:=h2.2.1;omega);have hlt:i*((Gt t).length:Int)+k<(Gr t).length:=by
  have e:=Int.mul_le_mul_of_nonneg_right (show i+1<=((GM t).length:Int) by omega) (show (0:Int)<=((Gt t).length:Int) by omega);rw[Int.add_mul,Int.one_mul] at e;rw[h3,Int.natCast_mul];omega
 obtain ⟨x,hx,hx2⟩:=Zvn (l:=Gr t) (i:=i*((Gt t).length:Int)+k) (by omega) hlt;have hm:=h4 x (Ue hx2);have e:Zqg t i k=x:=by unfold Zqg;rw[hx];rfl
 rw[e];exact ⟨hx,hm,by omega,by omega⟩
theorem Zxs {t:Zw} (h:Jz t) {i k a c:Int} (hi:0<a->0<=i/\i<(GM t).length) (hk:0<c->0<=k/\k<(Gt t).length) (a0:0<=a) (c0:0<=c):-(1000000*(a*c))<=tm t i k a c/\tm t i k a c<=1000000*(a*c):=by
 unfold tm;by_cases q:0<a*c
 ·rw[Uc q]
  have ha:0<a:=by
   refine UU λz=>?_;rw[show a=0 by omega,Int.zero_mul] at q;omega
  have hc:0<c:=by
   refine UU λz=>?_;rw[show c=0 by omega,Int.mul_zero] at q;omega
  obtain ⟨_,⟨b1,b2⟩,_⟩:=Zu1 h (hi ha).1 (hi ha).2 (hk hc).1 (hk hc).2;exact Zr7 b1 b2 (by omega)
 ·rw[Ud q]
  have:=Int.mul_nonneg a0 c0;omega
theorem ZFs {t:Zw} {i k a:Int}:tm t i k a 0=0:=by unfold tm;rw[Int.mul_zero,Ud (by omega)]
theorem ZyG {t:Zw} {i k c:Int}:tm t i k 0 c=0:=by unfold tm;rw[Int.zero_mul,Ud (by omega)]
def ZzC (t:Zw) (j a b k c d:Int):Int:=tm t j k a c+tm t j (k+1) a d+(tm t (j+1) k b c+tm t (j+1) (k+1) b d)
theorem ZrB {t:Zw} (h:Jz t) {w:List Zca×Int} {v1 i A s v3 k c:Int} (i0:0<=i) (i1:i<(GM t).length) (A0:0<A) (A1:A<=100000) (hk:atI w.1 v3=some (k,c,())) (hv:v3<w.1.length) (hv2:v3<=10) (hv0:0<=v3) (k0:0<=k) (k1:k<(Gt t).length) (c0:0<c) (c1:c<=100000) (s1:-100000000000000000<=s) (s2:s<=100000000000000000) :
  X3 t w v1 (i,A,()) s v3=some (.inl (s+tm t i k A c,v3+1,())):=by
 obtain ⟨hx,⟨b1,b2⟩,b3,b4⟩:=Zu1 h i0 i1 k0 k1;have l4:=h.2.1.2.1;have p:=Zlh (show 0<=A by omega) A1 (show 0<=c by omega) c1;have pp:0<A*c:=Int.mul_pos A0 c0;have q:=Zr7 b1 b2 (show 0<=A*c by omega);have q1:=Zr7 b1 b2 (show 0<=A by omega);have e:tm t i k A c=Zqg t i k*(A*c):=by unfold tm;rw[Uc pp]
 simp only[X3,Uc hv,hk,Bq];show (atI (Gr t) (Wq (Wq (i*((Gt t).length:Int))+k))).bind _=_;rw[YZ (n:=i*((Gt t).length:Int)) (by omega) (by omega),YZ (n:=i*((Gt t).length:Int)+k) (by omega) (by omega),hx,Bq];show some (Sum.inl (Wq (s+Wq (Wq (Zqg t i k*A)*c)),Wq (v3+1),()))=_;rw[YZ (n:=Zqg t i k*A) (by omega) (by omega),Int.mul_assoc,YZ (n:=Zqg t i k*(A*c)) (by omega) (by omega),YZ (n:=s+Zqg t i k*(A*c)) (by omega) (by omega),YZ (n:=v3+1) (by omega) (by omega),e]
theorem Zx2 {t:Zw} {w:List Zca×Int} {v1 s v3:Int} {x:Zca} (hv:v3=w.1.length):X3 t w v1 x s v3=some (.inr (.inl (s,Wq (v1+1),()))):=by
 simp only[X3,Ud (show ¬v3<(w.1.length:Int) by omega)]
theorem Zx3 {t:Zw} (h:Jz t) {w:List Zca×Int} {k c d:Int} (hw:w.1=wl k c d) (hk:ZG6 (Gt t) k c d) {v1 i A s:Int} (i0:0<=i) (i1:i<(GM t).length) (A0:0<A) (A1:A<=100000) (s1:-50000000000000000<=s) (s2:s<=50000000000000000) :
  Zq (λv=>X3 t w v1 (i,A,()) v.1 v.2.1) (s,(0:Int),())=some (.inl (s+(tm t i k A c+tm t i (k+1) A d),Wq (v1+1),())):=by
 have hab:=hk.ab;have ha0:=hk.a0;have hb0:=hk.b0;have hj0:=hk.j0;have hjl:=hk.jl;have p:=Zlh (show 0<=A by omega) A1 (show 0<=c by omega) (show c<=100000 by omega);have q:=Zxs h (i:=i) (k:=k) (a:=A) (c:=c) (λ_=>⟨i0,i1⟩) (λ_=>⟨hj0,hjl⟩) (by omega) (by omega);unfold wl at hw;by_cases hd:d=0
 ·rw[Uc hd] at hw
  subst hd;refine (Xq (v':=(s+tm t i k A c,(1:Int),())) ?_).trans (Xn ?_)
  ·exact ZrB (s:=s) (v3:=0) h i0 i1 A0 A1 (by rw[hw];rfl) (by rw[hw];show (0:Int)<((1:Nat):Int);omega) (by omega) (by omega) hj0 hjl ha0 (by omega) (by omega) (by omega)
  ·rw[ZFs,KY]
   exact Zx2 (by rw[hw];rfl)
 ·rw[Ud hd] at hw
  have hjb:=hk.jb (by omega);refine (Xq (v':=(s+tm t i k A c,(1:Int),())) ?_).trans ((Xq (v':=(s+tm t i k A c+tm t i (k+1) A d,(2:Int),())) ?_).trans (Xn ?_))
  ·exact ZrB (s:=s) (v3:=0) h i0 i1 A0 A1 (by rw[hw];rfl) (by rw[hw];show (0:Int)<((2:Nat):Int);omega) (by omega) (by omega) hj0 hjl ha0 (by omega) (by omega) (by omega)
  ·exact ZrB (s:=s+tm t i k A c) (v3:=1) h i0 i1 A0 A1 (by rw[hw];rfl) (by rw[hw];show (1:Int)<((2:Nat):Int);omega) (by omega) (by omega) (by omega) hjb (by omega) (by omega) (by omega) (by omega)
  ·rw[<-Int.add_assoc]
   exact Zx2 (by rw[hw];rfl)
theorem Zv9 {t:Zw} (h:Jz t) {j k:Int} {v1 v3 s W1 a c:Int} (hv1:v1=0\/v1=1) (hv3:v3=0\/v3=1) (hj:0<=j) (hj1:0<a->j+v1<(GM t).length) (hj4:j<=4) (hk:0<=k) (hk1:0<c->k+v3<(Gt t).length) (a0:0<=a) (a1:a<=100000) (c0:0<=c) (c1:c<=100000) (s1:-100000000000000000<=s) (s2:s<=100000000000000000) :
  (if (0:Int)<Wq (a*c) then
     (atI (Gr t) (Wq (Wq (Wq (Wq (j+v1)*(↑(List.length (Gt t)):Int))+k)+v3))).bind λx0 =>
     some (Sum.inl (Wq (s+Wq (Wq (a*c)*x0)),Wq (v3+(1:Int)),()))
    else
     some (.inl (s,Wq (v3+(1:Int)),())):Option ((Int×Int×Unit) ⊕ ((Int×Int×Unit) ⊕ Int)))=some (.inl (s+tm t (j+v1) (k+v3) a c,v3+1,())):=by
 have p:=Zlh a0 a1 c0 c1;rw[YZ (n:=a*c) (by omega) (by omega),YZ (n:=v3+1) (by omega) (by omega)];by_cases pp:0<a*c
 ·have ha:0<a:=by
   refine UU λz=>?_;rw[show a=0 by omega,Int.zero_mul] at pp;omega
  have hc:0<c:=by
   refine UU λz=>?_;rw[show c=0 by omega,Int.mul_zero] at pp;omega
  obtain ⟨hx,⟨b1,b2⟩,b3,b4⟩:=Zu1 h (i:=j+v1) (k:=k+v3) (by omega) (hj1 ha) (by omega) (hk1 hc);have l4:=h.2.1.2.1;have kk:=hk1 hc;have q:=Zr7 b1 b2 (show 0<=a*c by omega);rw[Uc pp,YZ (n:=j+v1) (by omega) (by omega),YZ (n:=(j+v1)*((Gt t).length:Int)) (by omega) (by omega),YZ (n:=(j+v1)*((Gt t).length:Int)+k) (by omega) (by omega),Int.add_assoc,YZ (n:=(j+v1)*((Gt t).length:Int)+(k+v3)) (by omega) (by omega),hx,Bq];unfold tm;rw[Uc pp,Int.mul_comm (a*c),YZ (n:=Zqg t (j+v1) (k+v3)*(a*c)) (by omega) (by omega),YZ (by omega) (by omega)]
 ·rw[Ud pp]
  unfold tm;rw[Ud pp,KY]
theorem ZyC {t:Zw} (h:Jz t) {j a b k c d:Int} (hj:ZG6 (GM t) j a b) (hk:ZG6 (Gt t) k c d) {v1 s A:Int} (hv:v1=0/\A=a\/v1=1/\A=b) (s1:-50000000000000000<=s) (s2:s<=50000000000000000) :
  Zq (λv=>Qp t (j,a,b) (k,c,d) v1 v.1 v.2.1) (s,(0:Int),())=some (.inl (s+(tm t (j+v1) k A c+tm t (j+v1) (k+1) A d),Wq (v1+1),())):=by
 have j1:=hj.ab;have j2:=hj.a0;have j3:=hj.b0;have j4:=hj.j0;have j5:=hj.jl;have j6:=hj.jb;have k1:=hk.ab;have k2:=hk.a0;have k3:=hk.b0;have k4:=hk.j0;have k5:=hk.jl;have k6:=hk.jb;have l4:=h.1.2.1;have A0:0<=A/\A<=100000/\(0<A->j+v1<(GM t).length)/\0<=j+v1:=by
  rcases hv with ⟨rfl,rfl⟩ | ⟨rfl,rfl⟩
  ·exact ⟨by omega,by omega,λ_=>by omega,by omega⟩
  ·exact ⟨by omega,by omega,λq=>j6 q,by omega⟩
 obtain ⟨A1,A2,A3,A4⟩:=A0;have p:=Zlh A1 A2 (show 0<=c by omega) (show c<=100000 by omega);have q:=Zxs h (i:=j+v1) (k:=k) (a:=A) (c:=c) (λz=>⟨A4,A3 z⟩) (λ_=>⟨k4,k5⟩) A1 (by omega);have p2:=Zlh A1 A2 (show 0<=d by omega) (show d<=100000 by omega);have q2:=Zxs h (i:=j+v1) (k:=k+1) (a:=A) (c:=d) (λz=>⟨A4,A3 z⟩) (λz=>⟨by omega,k6 z⟩) A1 (by omega);have hv1:v1=0\/v1=1:=by omega
 refine (Xq (v':=(s+tm t (j+v1) (k+0) A c,0+1,())) ?_).trans ((Xq (v':=(s+tm t (j+v1) (k+0) A c+tm t (j+v1) (k+1) A d,1+1,())) ?_).trans (Xn ?_))
 ·have e:=Zv9 h (v1:=v1) (v3:=0) (s:=s) (W1:=0) (a:=A) (c:=c) hv1 (.inl rfl) j4 A3 (by omega) k4 (λ_=>by omega) A1 A2 (by omega) (by omega) (by omega) (by omega)
  show Qp t (j,a,b) (k,c,d) v1 s 0=_;unfold Qp;rw[Uc (by decide)];rcases hv with ⟨rfl,rfl⟩ | ⟨rfl,rfl⟩
  ·rw[Ud (by decide),Uc rfl];exact e
  ·rw[Uc rfl,Uc rfl];exact e
 ·rw[KY]
  have e:=Zv9 h (v1:=v1) (v3:=1) (s:=s+tm t (j+v1) k A c) (W1:=0) (a:=A) (c:=d) hv1 (.inr rfl) j4 A3 (by omega) k4 (λz=>k6 z) A1 A2 (by omega) (by omega) (by omega) (by omega);show Qp t (j,a,b) (k,c,d) v1 (s+tm t (j+v1) k A c) 1=_;unfold Qp;rw[Uc (by decide)];rcases hv with ⟨rfl,rfl⟩ | ⟨rfl,rfl⟩
  ·rw[Ud (by decide),Ud (by decide)];exact e
  ·rw[Uc rfl,Ud (by decide)];exact e
 ·rw[KY]
  show Qp t (j,a,b) (k,c,d) v1 (s+tm t (j+v1) k A c+tm t (j+v1) (k+1) A d) 2=_;unfold Qp;rw[Ud (by decide),Int.add_assoc]
theorem look_eq {t:Zw} (h:Jz t) (s l:Int) {m:Int} (hm:m=0\/m=1):∃ r,Za4 t s l m=some r/\ZcU t s l m=some r/\-1000000<=r/\r<=1000000:=by
 obtain ⟨j,a,b,hj,e1,e2⟩:=ZtV h.1 s;obtain ⟨k,c,d,hk,e3,e4⟩:=ZtV h.2.1 l;have j1:=hj.ab;have j2:=hj.a0;have j3:=hj.b0;have j4:=hj.j0;have j5:=hj.jl;have j6:=hj.jb;have k1:=hk.ab;have k2:=hk.a0;have k3:=hk.b0;have k4:=hk.j0;have k5:=hk.jl;have k6:=hk.jb;have p1:=Zlh (show 0<=a by omega) (show a<=100000 by omega) (show 0<=c by omega) (show c<=100000 by omega);have p2:=Zlh (show 0<=a by omega) (show a<=100000 by omega) (show 0<=d by omega) (show d<=100000 by omega);have p3:=Zlh (show 0<=b by omega) (show b<=100000 by omega) (show 0<=c by omega) (show c<=100000 by omega);have p4:=Zlh (show 0<=b by omega) (show b<=100000 by omega) (show 0<=d by omega) (show d<=100000 by omega);have pp:=Int.mul_pos j2 k2;have q1:=Zxs h (i:=j) (k:=k) (a:=a) (c:=c) (λ_=>⟨j4,j5⟩) (λ_=>⟨k4,k5⟩) (by omega) (by omega);have q2:=Zxs h (i:=j) (k:=k+1) (a:=a) (c:=d) (λ_=>⟨j4,j5⟩) (λz=>⟨by omega,k6 z⟩) (by omega) (by omega);have q3:=Zxs h (i:=j+1) (k:=k) (a:=b) (c:=c) (λz=>⟨by omega,j6 z⟩) (λ_=>⟨k4,k5⟩) (by omega) (by omega);have q4:=Zxs h (i:=j+1) (k:=k+1) (a:=b) (c:=d) (λz=>⟨by omega,j6 z⟩) (λz=>⟨by omega,k6 z⟩) (by omega) (by omega);have eT:(a+b)*(c+d)=a*c+a*d+(b*c+b*d):=by rw[Int.add_mul,Int.mul_add,Int.mul_add]
 obtain ⟨r,hr,hb⟩:=Zua (a:=ZzC t j a b k c d) (b:=(a+b)*(c+d)) (m:=m) (by omega) (by unfold ZzC;omega) (by unfold ZzC;omega) hm;have hbd:=hb 1000000 (by omega) (by omega);refine ⟨r,?_,?_,hbd.2.1 (by unfold ZzC;omega),hbd.1 (by unfold ZzC;omega)⟩
 ·have fin:∀ v1:Int,v1=(wl j a b).length->Y0 t m (wl j a b,a+b) (wl k c d,c+d) (ZzC t j a b k c d) v1=some (.inr r):=λv1 hv=>by
   simp only[Y0,hv,Uf,Uh];rw[YZ (n:=(a+b)*(c+d)) (by omega) (by omega),Zks,hr,Bq]
  unfold Za4;rw[e2,e4,Bq,Bq];have r1:=Zx3 h (w:=(wl k c d,c+d)) (v1:=0) (i:=j) (A:=a) (s:=0) rfl hk j4 j5 j2 (by omega) (by omega) (by omega);by_cases hz:b=0
  ·have ew:wl j a b=[(j,a,())]:=by unfold wl;rw[Uc hz]
   refine (Xq (v':=(ZzC t j a b k c d,(1:Int),())) ?_).trans (Xn (fin 1 (by rw[ew];rfl)));show Y0 t m (wl j a b,a+b) (wl k c d,c+d) 0 0=_;unfold Y0;rw[Uc (by rw[ew];show (0:Int)<((1:Nat):Int);omega),show atI (wl j a b,a+b).fst (0:Int)=some (j,a,()) by rw[ew];rfl,Bq];refine r1.trans ?_;unfold ZzC;rw[hz,ZyG,ZyG,KY,KY,Int.zero_add];rfl
  ·have ew:wl j a b=[(j,a,()),(j+1,b,())]:=by unfold wl;rw[Ud hz]
   have r2:=Zx3 h (w:=(wl k c d,c+d)) (v1:=1) (i:=j+1) (A:=b) (s:=tm t j k a c+tm t j (k+1) a d) rfl hk (by omega) (j6 (by omega)) (by omega) (by omega) (by omega) (by omega);refine (Xq (v':=(tm t j k a c+tm t j (k+1) a d,(1:Int),())) ?_).trans ((Xq (v':=(ZzC t j a b k c d,(2:Int),())) ?_).trans (Xn (fin 2 (by rw[ew];rfl))))
   ·show Y0 t m (wl j a b,a+b) (wl k c d,c+d) 0 0=_
    unfold Y0;rw[Uc (by rw[ew];show (0:Int)<((2:Nat):Int);omega),show atI (wl j a b,a+b).fst (0:Int)=some (j,a,()) by rw[ew];rfl,Bq];refine r1.trans ?_;rw[Int.zero_add];rfl
   ·show Y0 t m (wl j a b,a+b) (wl k c d,c+d) (tm t j k a c+tm t j (k+1) a d) 1=_
    unfold Y0;rw[Uc (by rw[ew];show (1:Int)<((2:Nat):Int);omega),show atI (wl j a b,a+b).fst (1:Int)=some (j+1,b,()) by rw[ew];rfl,Bq];exact r2
 ·unfold ZcU
  rw[e1,e3,Bq,Bq];have r1:=ZyC h hj hk (v1:=0) (s:=0) (A:=a) (.inl ⟨rfl,rfl⟩) (by omega) (by omega);have r2:=ZyC h hj hk (v1:=1) (s:=tm t j k a c+tm t j (k+1) a d) (A:=b) (.inr ⟨rfl,rfl⟩) (by omega) (by omega);refine (Xq (v':=(tm t j k a c+tm t j (k+1) a d,(1:Int),())) ?_).trans ((Xq (v':=(ZzC t j a b k c d,(2:Int),())) ?_).trans (Xn ?_))
  ·show Q8 t m (j,a,b) (k,c,d) 0 0=_
   unfold Q8;rw[Uc (by decide)];refine r1.trans ?_;rw[KY,Int.zero_add];rfl
  ·show Q8 t m (j,a,b) (k,c,d) (tm t j k a c+tm t j (k+1) a d) 1=_
   unfold Q8;rw[Uc (by decide)];exact r2
  ·show Q8 t m (j,a,b) (k,c,d) (ZzC t j a b k c d) 2=_
   unfold Q8;rw[Ud (by decide)];show (Xe (ZzC t j a b k c d) (Wq (Wq (a+b)*Wq (c+d))) m).bind _=_;rw[YZ (n:=a+b) (by omega) (by omega),YZ (n:=c+d) (by omega) (by omega),YZ (n:=(a+b)*(c+d)) (by omega) (by omega),hr];rfl
def sdl (w:Zo) (ld:List Int) (y:Int):Int:=(atI (ndl w ld) y).getD 0
theorem Zww.sink {b:Za} {k:Nat} {w:Zo} {ld:List Int} (h:Zww b k w ld) {y:Int} (hy:y∈Gk w):atI (ndl w ld) y=some (sdl w ld y)/\0<=sdl w ld y/\sdl w ld y<=301000000:=by
 have hs:=h.snk y hy;obtain ⟨x,h1,h2⟩:=Zkn (l:=ndl w ld) hs.1 (by rw[h.len];omega);have hb:=h.bd x h2;have e:sdl w ld y=x:=by unfold sdl;rw[h1];rfl
 rw[e];exact ⟨h1,hb⟩
theorem ZsO {b:Za} {k:Nat} {w:Zo} {ld:List Int} (h:Zww b k w ld):XG b (k:Int)=some ((Gk w).map (sdl w ld)):=by
 unfold XG;rw[ZwR h,Bq,Zm,h.wire,Bq];have hf:=h.few;refine Zyh (l:=Gk w) (by unfold Len;omega) (λo i=>(o,i,())) (g:=sdl w ld) (s0:=[]) (λm y hy s hs=>?_) ?_
 ·have hm:=(Ub.1 hy).1
  have hl:s.length<=1048576:=by rw[hs,Ug,UL,Ui,Ux];omega
  simp only[XJ,show (m:Int)<((Gk w).length:Int) from by omega,Uj,Zm,hy,(h.sink (Ue hy)).1,Bq];rw[Zg (by simp only[Uz,Ux];omega)]
 ·simp only[XJ,Uf,Uh,Us]
theorem ZuP {b:Za} {k:Nat} {w:Zo} {ld:List Int} (h:Zww b k w ld) {mode:Int} (hm:mode=0\/mode=1):∃ f:Int->Int,(∀ y∈Gk w,Xe (sdl w ld y) 1000 mode=some (f y)/\0<=f y/\f y<=301000)/\Zcr b (k:Int) mode=some ((Gk w).map f):=by
 have hf:=h.few;have key:∀ y∈Gk w,Xe (sdl w ld y) 1000 mode=some ((Xe (sdl w ld y) 1000 mode).getD 0)/\0<=(Xe (sdl w ld y) 1000 mode).getD 0/\(Xe (sdl w ld y) 1000 mode).getD 0<=301000:=λy hy=>by
  have hs:=(h.sink hy).2;obtain ⟨r,hr,hb⟩:=Zua (a:=sdl w ld y) (b:=1000) (m:=mode) (by omega) (by omega) (by omega) hm;have:=hb 301000 (by omega) (by omega);rw[hr];exact ⟨rfl,this.2.2 hs.1,this.1 (by omega)⟩
 refine ⟨λy=>(Xe (sdl w ld y) 1000 mode).getD 0,key,?_⟩;unfold Zcr;rw[Zsq h,Bq];refine Zyh (l:=Gk w) (by unfold Len;omega) (λo i=>(o,i,())) (g:=λy=>(Xe (sdl w ld y) 1000 mode).getD 0) (s0:=[]) (λm y hy s hs=>?_) ?_
 ·have hm:=(Ub.1 hy).1
  have hl:s.length<=1048576:=by rw[hs,Ug,UL,Ui,Ux];omega
  simp only[Zbh,Zm,h.wire,show (m:Int)<((Gk w).length:Int) from by omega,Uj,hy,(h.sink (Ue hy)).1,Bq];rw[(key y (Ue hy)).1,Bq,Zg (by simp only[Uz,Ux];omega)];rfl
 ·simp only[Zbh,Zm,h.wire,Bq,Uf,Uh,Us]
theorem Zp4 {α:Type} {p:α->Bool} {l:List α} {k:Nat} {x:α} (hx:l[k]?=some x) (hp:p x=true) (hf:∀ (j:Nat) (y:α),j<k->l[j]?=some y->p y=false):JB p l=(k:Int):=by
 have hk:=(Ub.1 hx);have:l.findIdx? p=some k:=by
  rw[Kg];refine ⟨hk.1,by rw[hk.2];exact hp,λj hj=>?_⟩;have:=hf j (l[j]'(by have:=hk.1;omega)) hj (Ua _);simp[this]
 unfold JB;rw[this]
theorem ZpP (d:Zb) (n:Int) (h:Few d):ZdS d n=some (JB (λx:Pl=>decide (x.2.2.1=n)&&x.2.2.2.1) (places d)):=by
 have hpl:=Z0 h;unfold ZdS;rw[Yg d h,Bq];refine X5 (out:=λi=>i) (show Len (places d) by show List.length _<=_;omega) (λk x hx=>?_) ?_
 ·have hk:=(Ub.1 hx).1
  simp only[ZdF,show (k:Int)<((places d).length:Int) from by omega,Uj,Zm,hx,Bq,Ur,Uk];split
  ·rename_i e1
   split
   ·rename_i e2;rw[Uc ⟨e1,e2⟩]
   ·rename_i e2;rw[Ud (λq=>e2 q.2)]
  ·rename_i e1;rw[Ud (λq=>e1 q.1)]
 ·simp only[ZdF,Uf,Uh]
theorem ZwK {i:Nat} {x:Ze} {a:Zp} {d:Zb} (hl:Zvg a) (h:Zk5 a d x) (hsm:(Gb x).length<=1048576):((YH i x).filter (λy=>y.2.2.2.1)).map (λy=>y.2.2.1)=[XU x]:=by
 obtain ⟨_,⟨c,hc,hn⟩,_⟩:=h;have h2:2<=(K7 c).length:=(hl.2.1 c (Ue hc)).2.1.1;unfold YH XU;rw[ZmK hsm (by omega)];generalize hN:Gb x=l;rw[hN] at hn;have hne:l.length≠0:=by omega
 have gen:∀ (l:List Int) (m n:Nat),m+l.length=n+1->l.length≠0->((cat (λj n'=>[((i:Int),(j:Int),n',decide ((j:Int)=((n:Nat):Int)),())]) m l).filter (λy:Pl=>y.2.2.2.1)).map (λy=>y.2.2.1)=[l.getLastD 0]:=by
  intro l;induction l with
  | nil=>intro m n _ h0;simp at h0
  | cons y r ih =>
   intro m n hm _;by_cases hr:r=[]
   ·subst hr
    simp only[Uz,Ux] at hm;have:(m:Int)=(n:Int):=by omega
    simp[cat,this]
   ·have hrl:r.length≠0:=λe=>hr (UF e)
    simp only[Uz] at hm;have hmn:¬(m:Int)=(n:Int):=by omega
    have:=ih (m+1) n (by omega) hrl;simp only[cat,U0,Us];rw[List.filter_cons_of_neg (by simp[hmn]),this];cases r with
    | nil=>exact absurd rfl hr
    | cons z q=>simp[List.getLastD_cons]
 exact gen l 0 (l.length-1) (by omega) hne
theorem ZwL (j:Nat) (p:ZL):((Zba j p).filter (λy=>y.2.2.2.1)).map (λy=>y.2.2.1)=if Gz p=1 then [GI p] else []:=by
 unfold Zba;by_cases h:Gz p=1
 ·simp[h]
 ·simp[h]
theorem ZyU {a:Zp} {d:Zb} (h:X0 a d) (hsm:sm Yi d):((places d).filter (λy=>y.2.2.2.1)).map (λy=>y.2.2.1)=Zp2 d:=by
 unfold places Zp2;rw[List.filter_append,UV];congr 1
 ·have:∀ (l:List Ze) (m:Nat),(∀ x∈l,Zk5 a d x/\(Gb x).length<=1048576)->((cat YH m l).filter (λy=>y.2.2.2.1)).map (λy=>y.2.2.1)=l.map XU:=by
   intro l;induction l with
   | nil=>intro m _;rfl
   | cons x r ih =>
    intro m hl;have hx:=hl x (by simp);simp only[cat,List.filter_append,UV,U5];rw[ZwK h.1 hx.1 hx.2,ih (m+1) (λy hy=>hl y (by simp[hy]))];rfl
  exact this _ 0 (λx hx=>⟨h.2.2.1 x hx,Zu (Zm3 (Zv6 (Zco hsm).1 hx)).2⟩)
 ·have:∀ (l:List ZL) (m:Nat),((cat Zba m l).filter (λy=>y.2.2.2.1)).map (λy=>y.2.2.1)=(l.filter (λp=>decide (Gz p=1))).map GI:=by
   intro l;induction l with
   | nil=>intro m;rfl
   | cons p r ih =>
    intro m;simp only[cat,List.filter_append,UV];rw[ZwL,ih (m+1)];by_cases hd:Gz p=1
    ·simp[hd]
    ·simp[hd]
  exact this _ 0
theorem Zty {α:Type} {p:α->Bool} {l:List α} {i j:Nat} {a b:α} (hij:i<j) (ha:l[i]?=some a) (hb:l[j]?=some b) (pa:p a=true) (pb:p b=true):2<=l.countP p:=by
 have e:l.countP p=(l.take j).countP p+(l.drop j).countP p:=by rw[<-U2,Ki]
 have h1:0<(l.take j).countP p:=KB.2 ⟨a,UE.2 ⟨i,by rw[UA,Uc hij];exact ha⟩,pa⟩;have h2:0<(l.drop j).countP p:=KB.2 ⟨b,UE.2 ⟨0,by rw[Kb];exact hb⟩,pb⟩;omega
def ZyT (n:Int) (x:Pl):Bool:=decide (x.2.2.1=n)&&x.2.2.2.1
def Zls (d:Zb) (n:Int):Int:=JB (ZyT n) (places d)
theorem ZAc {a:Zp} {d:Zb} (h:X0 a d) (hsm:sm Yi d) {v:Nat} (hv:v<(K6 d).length):(places d).countP (ZyT (v:Int))=1:=by
 have h1:=h.2.2.2.2 _ (Ue (Zkp (s:=Zp2 d) hv));rw[<-ZyU h hsm,List.countP_map,List.countP_filter] at h1;have e:(places d).countP (ZyT (v:Int))=(places d).countP (λy=>((λx=>decide (x=(v:Int)))∘λy:Pl=>y.2.2.1) y&&y.2.2.2.1):=rfl;rw[e];omega
theorem ZAd {a:Zp} {d:Zb} (h:X0 a d) (hsm:sm Yi d) {v:Nat} (hv:v<(K6 d).length) :
  ∃ (q:Nat) (y:Pl),(places d)[q]?=some y/\ZyT (v:Int) y=true/\Zls d (v:Int)=(q:Int)/\∀ (p:Nat) (z:Pl),(places d)[p]?=some z->ZyT (v:Int) z=true->p=q:=by
 have hc:=ZAc h hsm hv;obtain ⟨y,hy,hp⟩:=KB.1 (show 0<(places d).countP (ZyT (v:Int)) by omega);obtain ⟨q,hq⟩:=UE.1 hy;have uniq:∀ (p:Nat) (z:Pl),(places d)[p]?=some z->ZyT (v:Int) z=true->p=q:=by
  intro p z hz hpz;rcases Nat.lt_trichotomy p q with hlt | he | hlt
  ·have:=Zty hlt hz hq hpz hp;omega
  ·exact he
  ·have:=Zty hlt hq hz hp hpz;omega
 refine ⟨q,y,hq,hp,Zp4 hq hp (λj z hj hz=>?_),uniq⟩;cases hb:ZyT (v:Int) z
 ·rfl
 ·have:=uniq j z hz hb;omega
theorem ZlF {b:Za} (h:YT b) {k:Nat} {w:Zo} (hw:(K2 b)[k]?=some w):∃ r,XG b (k:Int)=some r/\r.length<=1048576:=by
 have hW:=h.ok.2.2 k w hw;obtain ⟨⟨l1,l8⟩,lr,lc,ls,ht,ar,ac,asn⟩:=hW;obtain ⟨nl,hnl,hnl2⟩:=ZkI h hw;have hsm:=Zu (Zm4 (Zas (JK h.sm).2.2 hw)).2.2.2;have hnd:∃ r,QH b (k:Int)=some r/\r.length=(K3 w).length:=by
  unfold QH;rw[Zm,hw,Bq,hnl,Bq,Zg (by omega),Zg (by omega),Zg (by omega),Zg (by omega)];refine ZaD ((K3 w).length-1) (λm v=>v.1=((m+1:Nat):Int)/\v.2.1.length=(K3 w).length) _ ⟨rfl,by simp[hnl2]⟩ ?_ ?_
  ·rintro m ⟨i,l,⟨⟩⟩ hm ⟨hi,hl⟩
   simp only at hi hl;subst hi;left;have hp:(K3 w)[m+1]?=some (K3 w)[m+1]:=Ua (by omega);generalize (K3 w)[m+1]=p at hp;have hp2:=(ht (m+1) p hp).2 (by omega);obtain ⟨q,hq1,_⟩:=Zkn (l:=l) hp2.1 (by omega);have hr:(Gy w)[m+1]?=some (Gy w)[m+1]:=Ua (by omega);have hn:nl[m+1]?=some nl[m+1]:=Ua (by omega);have hl2:l[m+1]?=some l[m+1]:=Ua (by omega);simp only[XQ,show ((m+1:Nat):Int)<(l.length:Int) from by omega,Uj,Zm,hp,hq1,hr,hn,hl2,Bq];exact ⟨_,rfl,by rw[Y4 (by omega)],by simp[hl]⟩
  ·rintro ⟨i,l,⟨⟩⟩ ⟨hi,hl⟩
   simp only at hi hl;subst hi;simp only[XQ,show ¬(((K3 w).length-1+1:Nat):Int)<(l.length:Int) from by omega,Uh];exact ⟨_,rfl,hl⟩
 obtain ⟨nd,hnd,hnd2⟩:=hnd;unfold XG;rw[hnd,Bq,Zm,hw,Bq];refine Zf5 (l:=Gk w) (λm v=>v.1.length=m/\v.2.1=(m:Int)) _ ⟨rfl,rfl⟩ ?_ ?_
 ·rintro m y ⟨o,i,⟨⟩⟩ hy hm ⟨ho,hi⟩
  simp only at hi ho;subst hi;have hz2:=asn y (Ue hy);obtain ⟨q,hq1,_⟩:=Zkn (l:=nd) hz2.1 (by omega);simp only[XJ,show (m:Int)<((Gk w).length:Int) from by omega,Uj,Zm,hy,hq1,Bq];rw[Zg (by simp;omega)];exact ⟨_,rfl,by simp[ho],by rw[Y4 (by omega)]⟩
 ·rintro ⟨o,i,⟨⟩⟩ ⟨ho,hi⟩
  simp only at hi ho;subst hi;simp only[XJ,Uf,Uh];exact ⟨_,rfl,by omega⟩
theorem ZsA (a:ZC):∃ r,Q9 a=some r/\r.length<=4:=by
 unfold Q9;repeat' split
 all_goals exact ⟨_,rfl,by simp⟩
theorem Zt2 {b:Za} (h:YT b) {x:Ze} (hx:x∈K1 (KZ b)) (f:Int):∃ r,Va b x f=some r/\r.length<=32:=by
 obtain ⟨hc,⟨c,hc1,hc2⟩,_⟩:=h.ok.1.2.2.1 x hx;have hA:=(h.ok.1.1.2.1 c (Ue hc1)).2.2.1.1;unfold Va;rw[YD hc.1 hc1,Bq];refine Zf5 (l:=Gj c) (λm v=>v.1.length<=4*m/\v.2.1=(m:Int)) _ ⟨by simp,rfl⟩ ?_ ?_
 ·rintro m y ⟨o,i,⟨⟩⟩ hy hm ⟨ho,hi⟩
  simp only at hi ho;subst hi;obtain ⟨ts,ht1,ht2⟩:=ZsA y;simp only[Qg,show (m:Int)<((Gj c).length:Int) from by omega,Uj,Zm,hy,ht1,Bq];obtain ⟨r,hr1,r',rfl,hr2⟩:=Zf5 (l:=ts) (ρ:=(List Zx×Int×Unit) ⊕ List Zx) (step:=λv=>Xt f (m:Int) y ts v.1 v.2.1) (v:=(o,(0:Int),())) (λn v=>v.1.length=o.length+n/\v.2.1=(n:Int)) (λr=>∃ r',r=.inl r'/\r'.1.length<=4*(m+1)/\r'.2.1=((m+1:Nat):Int)) ⟨rfl,rfl⟩
   (by
    rintro n z ⟨o2,i,⟨⟩⟩ hz hn ⟨ho2,hi⟩;simp only at hi ho2;subst hi;simp only[Xt,show (n:Int)<(ts.length:Int) from by omega,Uj,Zm,hz,Bq];rw[Zg (by simp;omega)];exact ⟨_,rfl,by simp[ho2];omega,by rw[Y4 (by omega)]⟩)
   (by
    rintro ⟨o2,i,⟨⟩⟩ ⟨ho2,hi⟩;simp only at hi ho2;subst hi;simp only[Xt,Uf,Uh];exact ⟨_,rfl,_,rfl,by simp only;omega,by rw[Y4 (by omega)]⟩)
  exact ⟨r',hr1,hr2⟩
 ·rintro ⟨o,i,⟨⟩⟩ ⟨ho,hi⟩
  simp only at hi ho;subst hi;simp only[Qg,Uf,Uh];exact ⟨_,rfl,by omega⟩
def Short (l:List (List Int)) (n m:Nat):Prop:=l.length=n/\∀ x∈l,x.length<=m
theorem Short.set {l:List (List Int)} {n m:Nat} (h:Short l n m) {x:List Int} (hx:x.length<=m) (i:Nat):Short (l.set i x) n m:=by
 refine ⟨by simp[h.1],λy hy=>?_⟩;rcases U4 hy with hy | rfl
 ·exact h.2 y hy
 ·exact hx
theorem Short.mono {l:List (List Int)} {n m p:Nat} (h:Short l n m) (hp:m<=p):Short l n p:=⟨h.1,λx hx=>Kv (h.2 x hx) hp⟩
theorem ZnA {b:Za} (h:YT b):∃ v,Jl b=some v/\ZO.places v=places (KZ b)/\GY v=b:=by
 have hD:=h.ok.1;have hf:=hD.few;have hpl:=Z0 hf;have h14:=hf.insts;have hwn:=h.ok.2.1;have h30:=hD.2.1.2.1;unfold Jl;rw[ZN _ hf,Bq];refine Zf5 (l:=K1 (KZ b)) (λk v=>v.2.1=(k:Int)/\v.2.2.1.length<=32*k) _ ⟨rfl,by simp⟩ ?_ ?_
 ·rintro k x ⟨n,i,c,⟨⟩⟩ hx hk ⟨hi,hc⟩
  simp only at hi hc;subst hi;obtain ⟨r,hr1,hr2⟩:=Zt2 h (Ue hx) n;simp only[Zah,show (k:Int)<((K1 (KZ b)).length:Int) from by omega,Uj,Zm,hx,hr1,Bq,Vf];rw[Zg (by omega)];exact ⟨_,rfl,by simp only;rw[Y4 (by omega)],by simp only[Ug];omega⟩
 ·rintro ⟨n,i,c0,⟨⟩⟩ ⟨hi,hc0⟩
  simp only at hi hc0;subst hi;simp only[Zah,Uf,Uh];rw[Zg (by omega),Zg (by omega),Zg (by omega),Zg (by omega),Zg (by omega)];obtain ⟨r,hr1,r',rfl,hr2⟩:=Zf5 (l:=places (KZ b)) (ρ:=(Int×Int×List Zx×Unit) ⊕ ZO) (step:=λv=>Q0 b (places (KZ b)) c0 v.1 v.2.1 v.2.2.1) (v:=((0:Int),List.replicate (Int.toNat (↑(List.length (K2 b)):Int)) (0:Int),List.replicate (Int.toNat (↑(List.length (K2 b)):Int)) (([]:List Int)),()))
   (λk v=>v.1=(k:Int)/\v.2.1.length=(K2 b).length/\Short v.2.2.1 (K2 b).length k)
   (λr=>∃ r',r=.inr r'/\ZO.places r'=places (KZ b)/\GY r'=b)
   ⟨rfl,by simp,by simp,by
    intro x hx;rw[List.mem_replicate] at hx;rw[hx.2];simp⟩
   (by
    rintro k x ⟨i,l0,l1,⟨⟩⟩ hx hk ⟨hi,h0,h1⟩;simp only at hi h0 h1;subst hi;have hn:=JH hD (Ue hx);have hn1:=hn.2;simp only[Q0,show (k:Int)<((places (KZ b)).length:Int) from by omega,Uj,Zm,hx,Bq];obtain ⟨q,hq1,_⟩:=Zkn (l:=l0) hn.1 (by omega);obtain ⟨p,hp1,hp2⟩:=Zkn (l:=l1) hn.1 (by have:=h1.1;omega);have hp3:=h1.2 p hp2;split
    ·rw[show atI l0 (ZH.net x)=some q from hq1,Bq]
     exact ⟨_,rfl,by simp only;rw[Y4 (by omega)],by simp[h0],h1.mono (by omega)⟩
    ·rw[show atI l1 (ZH.net x)=some p from hp1,Bq,Zg (by simp;omega)]
     exact ⟨_,rfl,by simp only;rw[Y4 (by omega)],h0,(h1.mono (by omega)).set (by simp;omega) _⟩)
   (by
    rintro ⟨i,l0,l1,⟨⟩⟩ ⟨hi,h0,h1⟩;simp only at hi h0 h1;subst hi;simp only[Q0,Uf,Uh];obtain ⟨r,hr1,r',rfl,hr2⟩:=Zf5 (l:=K2 b) (ρ:=(Int×List Int×List (List Int)×Unit) ⊕ ((Int×Int×List Zx×Unit) ⊕ ZO)) (step:=λv=>QZ b (places (KZ b)) l0 v.1 v.2.1 v.2.2.1 v.2.2.2.1 v.2.2.2.2.1) (v:=((0:Int),([]:List Int),([]:List (List Int)),c0,l1,()))
     (λk v=>v.1=(k:Int)/\v.2.1.length=k/\v.2.2.1.length=k/\v.2.2.2.1.length<=448+156*k/\Short v.2.2.2.2.1 (K2 b).length 78)
     (λr=>∃ r',r=.inr (.inr r')/\ZO.places r'=places (KZ b)/\GY r'=b)
     ⟨rfl,rfl,rfl,by simp only;omega,h1.mono (by omega)⟩
     (by
      rintro k w ⟨i,c1,c2,c3,l2,⟨⟩⟩ hw hk ⟨hi,g1,g2,g3,g4⟩;simp only at hi g1 g2 g3 g4;subst hi;obtain ⟨nl,hnl,hnl2⟩:=ZkI h hw;obtain ⟨ed,hed,hed2⟩:=ZlF h hw;have hpar:=(h.ok.2.2 k w hw).1.1;have hn0:atI nl (0:Int)=some nl[0]:=(show nl[0]?=some nl[0] from Ua (by omega));obtain ⟨x1,hl2⟩:∃ x1,l2[k]?=some x1:=⟨_,Ua (by have:=g4.1;omega)⟩;have hx1:=g4.2 x1 (Ue hl2);simp only[QZ,show (k:Int)<((K2 b).length:Int) from by omega,Uj,hnl,hn0,hed,Bq,Zm,hl2];rw[Zg (by simp;omega),Zg (by simp;omega)];obtain ⟨r,hr1,r',rfl,hr2⟩:=Zf5 (l:=x1) (ρ:=(Int×List Int×List (List Int)×List Zx×List (List Int)×Unit) ⊕ ((Int×List Int×List (List Int)×Unit) ⊕ ((Int×Int×List Zx×Unit) ⊕ ZO))) (step:=λv=>QY l0 (k:Int) c1 c2 l2 nl[0] ed x1 v.1 v.2.1) (v:=((0:Int),c3,()))
       (λm v=>v.1=(m:Int)/\v.2.1.length=c3.length+2*m)
       (λr=>∃ r',r=.inl r'/\r'.1=((k+1:Nat):Int)/\r'.2.1.length=k+1/\r'.2.2.1.length=k+1/\r'.2.2.2.1.length<=448+156*(k+1)/\Short r'.2.2.2.2.1 (K2 b).length 78)
       ⟨rfl,rfl⟩
       (by
        rintro m y ⟨i,c4,⟨⟩⟩ hy hm ⟨hi,gc⟩;simp only at hi gc;subst hi;simp only[QY,show (m:Int)<(x1.length:Int) from by omega,Uj,Zm,hy,Bq];have hl0:l0[k]?=some l0[k]:=Ua (by omega);generalize l0[k]=z at hl0;obtain ⟨r,hr1,r',rfl,hr2⟩:=ZaD (step:=λv=>Qn l0 (k:Int) (m:Int) y v.1 v.2.1) 2 (λj v=>v.1=(j:Int)/\v.2.1.length=c4.length+j) (λr=>∃ r',r=.inl r'/\r'.1=((m+1:Nat):Int)/\r'.2.1.length=c4.length+2) (v:=((0:Int),c4,())) ⟨rfl,rfl⟩
         (by
          rintro j ⟨i,c5,⟨⟩⟩ hj ⟨hi,hc5⟩;simp only at hi hc5;subst hi;left;simp only[Qn,show (j:Int)<(2:Int) from by omega,Uj,Zm,hl0,Bq];rw[Zg (by simp;omega)];exact ⟨_,rfl,by simp only;rw[Y4 (by omega)],by simp[hc5];omega⟩)
         (by
          rintro ⟨i,c5,⟨⟩⟩ ⟨hi,hc5⟩;simp only at hi hc5;subst hi;simp only[Qn,show ¬((2:Nat):Int)<(2:Int) from by omega,Uh];exact ⟨_,rfl,_,rfl,by simp only;rw[Y4 (by omega)],hc5⟩)
        exact ⟨r',hr1,hr2.1,by rw[hr2.2];omega⟩)
       (by
        rintro ⟨i,c4,⟨⟩⟩ ⟨hi,gc⟩;simp only at hi gc;subst hi;simp only[QY,Uf,Uh];exact ⟨_,rfl,_,rfl,by simp only;rw[Y4 (by omega)],by simp[g1],by simp[g2],by simp only;omega,g4.set hx1 _⟩)
      exact ⟨r',hr1,hr2⟩)
     (by
      rintro ⟨i,c1,c2,c3,l2,⟨⟩⟩ ⟨hi,g1,g2,g3,g4⟩;simp only at hi;subst hi;simp only[QZ,Uf,Uh];exact ⟨_,rfl,_,rfl,rfl,rfl⟩)
    exact ⟨_,hr1,_,rfl,hr2⟩)
  exact ⟨r',hr1,hr2⟩
theorem ZAi (a:Za) (h:tot ZT a<=1048576):cnt ZT a<=100+20*1048576:=by
 have hc:=Zrf ZT a;have h1:wid ZT<=100:=by decide
 have h2:Ze2 ZT<=20:=by decide
 have:=UO (tot ZT a) h2;omega
theorem ZGH (l:List Int) (hl:(l.length:Int)<=1048576):sm (.sl (.int .i64)) l:=⟨hl,λx _=>trivial⟩
theorem ZB7 (l:List Int):cnt (.sl (.int .i64)) l=l.length:=by
 show (l.map (cnt (.int .i64))).sum=_;induction l with
 | nil=>rfl
 | cons x r ih=>simp only[U5,Kr,ih,Uz,Ze6];omega
def Zij (s:Zv):Prop:=0<=Gd s/\Gd s<=Gf s/\Gf s<=1000000
theorem Zln (s:Zv):Zdr s=some (tr (Zij s)):=by
 unfold Zdr Zij;exact Yq (λ_=>Yq (λ_=>Zch U3))
def Zcu (s:Zv):Prop:=(-1000000000<=Gd s/\Gd s<=1000000000)/\(-1000000000<=Gf s/\Gf s<=1000000000)/\Gd s<=Gf s
theorem Zgm (s:Zv):Zbz s=some (tr (Zcu s)):=by
 unfold Zbz Zcu Zkx;exact Xc (J4 (VO _ _ _)) (λ_=>Xc (J4 (VO _ _ _)) (λ_=>Zch U3))
theorem Zla (s:Zv):Zfg s=some (tr (Zij s)):=by
 unfold Zfg Zkw;refine JA (Xc (Zgm s) (λ_=>Xc (J4 (VO _ _ _)) (λ_=>J4 (J4 (VO _ _ _))))) ?_;unfold Zij Zcu;omega
theorem ZjK (s:Zv):ZcT s=some (tr (Zcu s)):=by
 unfold ZcT Zcu;exact Xc (VW _ _ _) (λ_=>Xc (VW _ _ _) (λ_=>Zch U3))
set_option maxHeartbeats 3200000
noncomputable def mt (k:Int):List UInt8:=(Jh k).getD []
theorem Zr4 {α:Type} {L:List α} {j:Nat} {z z':α} {A A' B B':Int} (hA:A=A') (hB:B=B') (hz:z=z'):(some (.inl (A,B,List.set L j z,())):Option ((Int×Int×List α×Unit) ⊕ (Int×List α)))=some (.inl (A',B',List.set L j z',())):=by rw[hA,hB,hz]
theorem Zru {A A' B B':Int} (hA:A=A') (hB:B=B'):(some (.inl (A,B,())):Option ((Int×Int×Unit) ⊕ Int))=some (.inl (A',B',())):=by rw[hA,hB]
theorem Zam (l:List (Int)) (k:Int) (hs:sm (.sl (.int .i64)) l) (h0:0<=k) (h1:k+((cnt (.sl (.int .i64)) l:Nat):Int)<=4611686018427387904):Yw l k=some (k+((cnt (.sl (.int .i64)) l:Nat):Int),mkL (mkA mt (.int .i64)) (cnt (.int .i64)) l k):=by
 unfold Yw;have hl:l.length<=1048576:=by have:=hs.1;omega
 refine ZAJ (f:=mkA mt (.int .i64)) (c:=cnt (.int .i64)) (λj m x L hj hj' hx hxm hm0 hm1 hj2=>?_) (λm L=>?_) hl h0 h1
 ·have hsx:=hs.2 x hxm
  have hc:((cnt (.int .i64) x:Nat):Int)=0+1:=by rfl
  simp (disch:=omega) only [VJ,Uc hj',Zm,hx,Bq,YZ,Up,ZfP,Uy,Ks,Ut];refine Zr4 ?_ ?_ rfl
  ·have hc:=hc;omega
  ·omega
 ·simp only[VJ,Uf,Uh]
theorem Zqv (a:Zo) (k:Int) (hs:sm (QD) a) (h0:0<=k) (h1:k+((ZnK (QD) a:Nat):Int)<=4611686018427387904):ZhU a k=some (k+((ZnK (QD) a:Nat):Int),mkT mt (QD) a k):=by
 unfold ZhU;have hc:((ZnK (QD) a:Nat):Int)=0+(((cnt (.sl (.int .i64)) a.1):Nat):Int)+(((cnt (.sl (.int .i64)) a.2.1):Nat):Int)+(((cnt (.sl (.int .i64)) a.2.2.1):Nat):Int)+(((cnt (.sl (.int .i64)) a.2.2.2.1):Nat):Int):=by simp only[ZnK];omega
 have e0:=Zam a.1 (k) hs.1 (by omega) (by omega);have e1:=Zam a.2.1 (k+(((cnt (.sl (.int .i64)) a.1):Nat):Int)) hs.2.1 (by omega) (by omega);have e2:=Zam a.2.2.1 (k+(((cnt (.sl (.int .i64)) a.1):Nat):Int)+(((cnt (.sl (.int .i64)) a.2.1):Nat):Int)) hs.2.2.1 (by omega) (by omega);have e3:=Zam a.2.2.2.1 (k+(((cnt (.sl (.int .i64)) a.1):Nat):Int)+(((cnt (.sl (.int .i64)) a.2.1):Nat):Int)+(((cnt (.sl (.int .i64)) a.2.2.1):Nat):Int)) hs.2.2.2.1 (by omega) (by omega);simp only[Bq,e0,e1,e2,e3];refine UM some (Prod.ext (by show _=k+_;rw[hc];omega) rfl)
theorem Zqt (a:Zj) (k:Int) (hs:sm (XO) a) (h0:0<=k) (h1:k+((ZnK (XO) a:Nat):Int)<=4611686018427387904):ZhS a k=some (k+((ZnK (XO) a:Nat):Int),mkT mt (XO) a k):=by
 unfold ZhS;have hc:((ZnK (XO) a:Nat):Int)=0+(((ZnK (QD) a.2.2.2.2.2.2.1):Nat):Int):=by simp only[ZnK];omega
 have e6:=Zqv a.2.2.2.2.2.2.1 (k) hs.2.2.2.2.2.2.1 (by omega) (by omega);simp only[Bq,e6];refine UM some (Prod.ext (by show _=k+_;rw[hc,Int.zero_add]) (by simp only[mkT,ZnK,Int.natCast_zero,KY]))
theorem Zpj (l:List (Bool)) (k:Int) (hs:sm (.sl (.bool)) l) (h0:0<=k) (h1:k+((cnt (.sl (.bool)) l:Nat):Int)<=4611686018427387904):Zgt l k=some (k+((cnt (.sl (.bool)) l:Nat):Int),mkL (mkA mt (.bool)) (cnt (.bool)) l k):=by
 unfold Zgt;have hl:l.length<=1048576:=by have:=hs.1;omega
 refine ZAJ (f:=mkA mt (.bool)) (c:=cnt (.bool)) (λj m x L hj hj' hx hxm hm0 hm1 hj2=>?_) (λm L=>?_) hl h0 h1
 ·have hsx:=hs.2 x hxm
  have hc:((cnt (.bool) x:Nat):Int)=0+1:=by rfl
  simp (disch:=omega) only [Zdv,Uc hj',Zm,hx,Bq,YZ,Up,ZfP,Uy,Ks,Ut];refine Zr4 ?_ ?_ rfl
  ·have hc:=hc;omega
  ·omega
 ·simp only[Zdv,Uf,Uh]
theorem Zj0 (l:List (Zv)) (k:Int) (hs:sm (.sl (YU)) l) (h0:0<=k) (h1:k+((cnt (.sl (YU)) l:Nat):Int)<=4611686018427387904):ZdQ l k=some (k+((cnt (.sl (YU)) l:Nat):Int),mkL (mkA mt (YU)) (cnt (YU)) l k):=by
 unfold ZdQ;have hl:l.length<=1048576:=by have:=hs.1;omega
 refine ZAJ (f:=mkA mt (YU)) (c:=cnt (YU)) (λj m x L hj hj' hx hxm hm0 hm1 hj2=>?_) (λm L=>?_) hl h0 h1
 ·have hsx:=hs.2 x hxm
  have hc:((cnt (YU) x:Nat):Int)=0+1+1:=by simp only[Zc4,Ze6,Zc3,Zc5,ZfR];omega
  have hx2:atI L (j:Int)=some x:=by rw[Zm];exact hx
  have hb:∀ {β:Type} (y:Zv) (F:Zv->Option β),(atI (List.set L j y) (j:Int)).bind F=F y:=λy F=>by rw[ZfP hj];rfl
  simp only[Zdy,Uc hj',Up,hx2,↓hb,Bq,Ks];refine Zr4 ?_ ?_ ?_
  ·have hc:=hc;simp (disch:=omega) only [YZ];omega
  ·simp (disch:=omega) only [YZ];omega
  ·simp (disch:=omega) only [YZ];rfl
 ·simp only[Zdy,Uf,Uh]
theorem Zjh (a:Zh) (k:Int) (hs:sm (Yf) a) (h0:0<=k) (h1:k+((ZnK (Yf) a:Nat):Int)<=4611686018427387904):ZcL a k=some (k+((ZnK (Yf) a:Nat):Int),mkT mt (Yf) a k):=by
 unfold ZcL;have hc:((ZnK (Yf) a:Nat):Int)=0+(((cnt (.sl (.bool)) a.1):Nat):Int)+(((cnt (.sl (YU)) a.2.1):Nat):Int)+(((cnt (.sl (YU)) a.2.2.1):Nat):Int):=by simp only[ZnK];omega
 have e0:=Zpj a.1 (k) hs.1 (by omega) (by omega);have e1:=Zj0 a.2.1 (k+(((cnt (.sl (.bool)) a.1):Nat):Int)) hs.2.1 (by omega) (by omega);have e2:=Zj0 a.2.2.1 (k+(((cnt (.sl (.bool)) a.1):Nat):Int)+(((cnt (.sl (YU)) a.2.1):Nat):Int)) hs.2.2.1 (by omega) (by omega);simp only[Bq,e0,e1,e2];refine UM some (Prod.ext (by show _=k+_;rw[hc];omega) rfl)
theorem Zph (l:List (Bool)) (k:Int) (hs:sm (.sl (.bool)) l) (h0:0<=k) (h1:k+((cnt (.sl (.bool)) l:Nat):Int)<=4611686018427387904):Zgr (mkL (mkA mt (.bool)) (cnt (.bool)) l k) k=some (k+((cnt (.sl (.bool)) l:Nat):Int)):=by
 unfold Zgr;have hl:l.length<=1048576:=by have:=hs.1;omega
 refine Zug (f:=mkA mt (.bool)) (c:=cnt (.bool)) (step:=λv=>ZaN (mkL (mkA mt (.bool)) (cnt (.bool)) l k) v.1 v.2.1) (λj m x hj hx hxm hm0 hm1 hj2=>?_) (λm=>?_) hl h0 h1
 ·have hsx:=hs.2 x hxm
  have hc:((cnt (.bool) x:Nat):Int)=0+1:=by rfl
  have f0:mkA mt (.bool) x m=decide (Int.tmod (m) 3=0):=rfl;simp (disch:=omega) only [ZaN,Uc hj,Zm,hx,Bq,YZ,eq_self,Uj,Uh,beq_self_eq_true,f0];refine Zru ?_ ?_
  ·have hc:=hc;omega
  ·omega
 ·simp only[ZaN,Uf,Uh]
theorem ZjZ (l:List (Zv)) (k:Int) (hs:sm (.sl (YU)) l) (h0:0<=k) (h1:k+((cnt (.sl (YU)) l:Nat):Int)<=4611686018427387904):ZdP (mkL (mkA mt (YU)) (cnt (YU)) l k) k=some (k+((cnt (.sl (YU)) l:Nat):Int)):=by
 unfold ZdP;have hl:l.length<=1048576:=by have:=hs.1;omega
 refine Zug (f:=mkA mt (YU)) (c:=cnt (YU)) (step:=λv=>ZaO (mkL (mkA mt (YU)) (cnt (YU)) l k) v.1 v.2.1) (λj m x hj hx hxm hm0 hm1 hj2=>?_) (λm=>?_) hl h0 h1
 ·have hsx:=hs.2 x hxm
  have hc:((cnt (YU) x:Nat):Int)=0+1+1:=by simp only[Zc4,Ze6,Zc3,Zc5,ZfR];omega
  have f0:Gd (mkA mt (YU) x m)=m:=rfl;have f1:Gf (mkA mt (YU) x m)=m+1:=rfl;simp (disch:=omega) only [ZaO,Uc hj,Zm,hx,Bq,YZ,eq_self,Uj,Uh,beq_self_eq_true,f0,f1];refine Zru ?_ ?_
  ·have hc:=hc;omega
  ·omega
 ·simp only[ZaO,Uf,Uh]
theorem Zoh (a:Zh) (k:Int) (hs:sm (Yf) a) (h0:0<=k) (h1:k+((ZnK (Yf) a:Nat):Int)<=4611686018427387904):Zfp (mkT mt (Yf) a k) k=some (k+((ZnK (Yf) a:Nat):Int)):=by
 unfold Zfp;have hc:((ZnK (Yf) a:Nat):Int)=0+(((cnt (.sl (.bool)) a.1):Nat):Int)+(((cnt (.sl (YU)) a.2.1):Nat):Int)+(((cnt (.sl (YU)) a.2.2.1):Nat):Int):=by simp only[ZnK];omega
 have f0:K9 (mkT mt (Yf) a k)=mkL (mkA mt (.bool)) (cnt (.bool)) a.1 (k):=by rfl
 have n0:¬(k+(((cnt (.sl (.bool)) a.1):Nat):Int))<0:=by omega
 have e0:=Zph a.1 (k) hs.1 (by omega) (by omega);have f1:Gp (mkT mt (Yf) a k)=mkL (mkA mt (YU)) (cnt (YU)) a.2.1 (k+(((cnt (.sl (.bool)) a.1):Nat):Int)):=by rfl
 have n1:¬(k+(((cnt (.sl (.bool)) a.1):Nat):Int)+(((cnt (.sl (YU)) a.2.1):Nat):Int))<0:=by omega
 have e1:=ZjZ a.2.1 (k+(((cnt (.sl (.bool)) a.1):Nat):Int)) hs.2.1 (by omega) (by omega);have f2:Gm (mkT mt (Yf) a k)=mkL (mkA mt (YU)) (cnt (YU)) a.2.2.1 (k+(((cnt (.sl (.bool)) a.1):Nat):Int)+(((cnt (.sl (YU)) a.2.1):Nat):Int)):=by rfl
 have n2:¬(k+(((cnt (.sl (.bool)) a.1):Nat):Int)+(((cnt (.sl (YU)) a.2.1):Nat):Int)+(((cnt (.sl (YU)) a.2.2.1):Nat):Int))<0:=by omega
 have e2:=ZjZ a.2.2.1 (k+(((cnt (.sl (.bool)) a.1):Nat):Int)+(((cnt (.sl (YU)) a.2.1):Nat):Int)) hs.2.2.1 (by omega) (by omega);simp only[Bq,Uh,f0,n0,e0,f1,n1,e1,f2,n2,e2];refine UM some ?_;omega
theorem Zog (l:List (Int)) (k:Int) (hs:sm (.sl (.int .i64)) l) (h0:0<=k) (h1:k+((cnt (.sl (.int .i64)) l:Nat):Int)<=4611686018427387904):Zfo (mkL (mkA mt (.int .i64)) (cnt (.int .i64)) l k) k=some (k+((cnt (.sl (.int .i64)) l:Nat):Int)):=by
 unfold Zfo;have hl:l.length<=1048576:=by have:=hs.1;omega
 refine Zug (f:=mkA mt (.int .i64)) (c:=cnt (.int .i64)) (step:=λv=>Zal (mkL (mkA mt (.int .i64)) (cnt (.int .i64)) l k) v.1 v.2.1) (λj m x hj hx hxm hm0 hm1 hj2=>?_) (λm=>?_) hl h0 h1
 ·have hsx:=hs.2 x hxm
  have hc:((cnt (.int .i64) x:Nat):Int)=0+1:=by rfl
  have f0:mkA mt (.int .i64) x m=m:=rfl;simp (disch:=omega) only [Zal,Uc hj,Zm,hx,Bq,YZ,eq_self,Uj,Uh,beq_self_eq_true,f0];refine Zru ?_ ?_
  ·have hc:=hc;omega
  ·omega
 ·simp only[Zal,Uf,Uh]
end Go.Proofs.YtjepimjoknccmaaGreatDoor
