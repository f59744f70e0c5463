/-
  Plain laws: setups whose Zw are carried over: what the reference makes of them.
-/
import Derived.Test.YtepbknolmhmipaaGreatDoorLA
namespace Go.Proofs.YtepbknolmhmipaaGreatDoor
set_option linter.unusedVariables false
set_option linter.unusedSimpArgs false
open Go Go.Sx
def ZAQ (af:List Int) (p:Int):Int:=(af[p.toNat]?).getD 0
def ZIu (af:List Int) (c:Zc):Zc:=(Zc.Name c,ZAQ af (Zc.Place c),c.2.2)
def ZE5 (af:List Int) (x:Zh):Zh:=(ZAQ af (Zh.Place x),x.2)
def ZI2 (af:List Int) (l:List Int):List Int:=l.map (ZAQ af)
def ZIs (af:List Int) (e:Ze):Ze:=(Ze.Kind e,Ze.Value e,ZI2 af (Ze.From e),ZI2 af (Ze.Through e),ZI2 af (Ze.To e),())
def ZFZ (af:List Int) (s:Zo):Zo:=((Zo.Yk s).map (ZIu af),(Zo.Zbb s).map (ZE5 af),(Zo.Vp s).map (ZE5 af),(Zo.Exceptions s).map (ZIs af),Zo.X5 s,())
def LOk (af:List Int) (l:List Int):Prop:=ZdM l (λ_ p=>0<=ZAQ af p)
def EOk (af:List Int) (e:Ze):Prop:=LOk af (Ze.From e)/\LOk af (Ze.Through e)/\LOk af (Ze.To e)
theorem ZEQ {af:List Int} {p:Int} (h0:0<=p) (h1:p<(af.length:Int)):atI af p=some (ZAQ af p):=by
 have hx:af[p.toNat]?=some (af[p.toNat]'(by omega)):=List.getElem?_eq_getElem _;unfold ZAQ;rw[Zbc h0 hx,hx];rfl
structure ZH1 (n:Nat) (s:Zo):Prop where
 clocks:∀ c∈Zo.Yk s,0<=Zc.Place c/\Zc.Place c<(n:Int)
 ins:∀ x∈Zo.Zbb s,0<=Zh.Place x/\Zh.Place x<(n:Int)
 outs:∀ x∈Zo.Vp s,0<=Zh.Place x/\Zh.Place x<(n:Int)
 excs:∀ e∈Zo.Exceptions s,Zna n (Ze.From e)/\Zna n (Ze.Through e)/\Zna n (Ze.To e)
 lens:(Zo.Yk s).length<=6/\(Zo.Zbb s).length<=n/\(Zo.Vp s).length<=n/\(Zo.Exceptions s).length<=6/\(Zo.X5 s).length<=4
theorem ZKA {pl:List Pl} {nc:Int} {drv:Bool} {l:List Zh} (h:ZfB pl nc drv l):l.length<=pl.length:=by
 have key:∀ k,k<l.length->∀ x,l[k]?=some x->(k:Int)<=Zh.Place x:=by
  intro k;induction k with
  | zero=>intro hk x hx;have:=(h 0 x hx).1;omega
  | succ k ih =>
   intro hk x hx;have hy:l[k]?=some l[k]:=List.getElem?_eq_getElem (by omega);have h1:=ih (by omega) _ hy;have h2:=(h (k+1) x hx).2.2.1 _ (by omega) hy;omega
 by_cases h0:l.length=0
 ·omega
 ·have hx:l[l.length-1]?=some (l[l.length-1]'(by omega)):=List.getElem?_eq_getElem _
  have h1:=key _ (by omega) _ hx;have h2:=(h _ _ hx).1;omega
theorem ZKd {pl:List Pl} {s:Zo} (h:Znb pl s):ZH1 pl.length s:=by
 obtain ⟨h1,h2,h3,h4,h5,h6,h7⟩:=h;have hx:∀ {drv:Bool} {l:List Zh},ZfB pl ((Zo.Yk s).length:Int) drv l->∀ x∈l,0<=Zh.Place x/\Zh.Place x<(pl.length:Int):=by
  intro drv l hl x hx;obtain ⟨k,hk⟩:=List.getElem?_of_mem hx;have:=(hl k x hk).1;omega
 exact ⟨λc hc=>⟨h1.place hc,h2 c hc⟩,hx h3,hx h4,λe he=>⟨(h6 e he).1,(h6 e he).2.1,(h6 e he).2.2.1⟩,h1.1,ZKA h3,ZKA h4,h5,h7.1⟩
noncomputable def ZKX (af:List Int) (l:List Int):List Int:=sel (LOk af l) (ZI2 af l) []
theorem ZIe {n:Nat} {l:List Int} (h:Zna n l) {k:Nat} {x:Int} (hx:l[k]?=some x):0<=x/\x<(n:Int):=by
 have:=h.2 x (List.mem_of_getElem? hx);omega
theorem ZDR {af:List Int} {n:Nat} (haf:af.length=n) {l:List Int} (h:Zna n l):ZCy l af=some (ZKX af l,tr (LOk af l)):=by
 have h4:=h.1;unfold ZCy;have:=Zfh (l:=l) (ρ:=List Int×Bool) (λk=>((l.take k).map (ZAQ af),(k:Int),())) (λ_ x=>0<=ZAQ af x) (step:=λv=>ZB0 l af v.1 v.2.1) (bad:=([],false)) (good:=(ZI2 af l,true))
  (λk x hx hk _=>by
   obtain ⟨h0,h1⟩:=ZIe h hx;simp only[ZB0,show (k:Int)<(l.length:Int) from by omega,if_true,Zu,hx,Bq,ZEQ h0 (by rw[haf];exact h1),Jb (show k<=1048576 by omega)];rw[Zd (by rw[List.length_map,List.length_take,List.length_singleton];omega)];constructor
   ·intro q
    rw[if_neg (by omega),Yy hx,List.map_append];rfl
   ·intro q;rw[if_pos (by omega)])
  (λ_=>by simp only[ZB0,Int.lt_irrefl,if_false,List.take_length];rfl)
 simp only[List.take_zero,List.map_nil] at this;rw[show ((0:Nat):Int)=0 from rfl] at this;rw[this];unfold ZKX LOk;by_cases c:ZdM l (λ_ x=>0<=ZAQ af x)
 ·rw[YS c,YS c,Yf c]
 ·rw[YC c,YC c,ZF c]
theorem ZEd {af:List Int} {n:Nat} (haf:af.length=n) (hn:n<=100) {l:List Zh} (h:∀ x∈l,0<=Zh.Place x/\Zh.Place x<(n:Int)) (hl:l.length<=n):ZCa l af=some (l.map (ZE5 af)):=by
 unfold ZCa;have:=JF (l:=l) (ρ:=List Zh) (λk=>((l.take k).map (ZE5 af),(k:Int),())) (step:=λv=>ZBw l af v.1 v.2.1) (good:=l.map (ZE5 af))
  (λk x hx hk=>by
   obtain ⟨h0,h1⟩:=h x (List.mem_of_getElem? hx);simp only[ZBw,show (k:Int)<(l.length:Int) from by omega,if_true,Zu,hx,Bq,ZEQ h0 (by rw[haf];exact h1),Jb (show k<=1048576 by omega)];rw[Zd (by rw[List.length_map,List.length_take,List.length_singleton];omega),Yy hx,List.map_append];rfl)
  (by simp only[ZBw,Int.lt_irrefl,if_false,List.take_length])
 simpa using this
noncomputable def ZHH (af:List Int) (e:Ze):Ze:=(Ze.Kind e,Ze.Value e,ZKX af (Ze.From e),ZKX af (Ze.Through e),ZKX af (Ze.To e),())
theorem ZKa {af:List Int} {e:Ze} (h:EOk af e):ZHH af e=ZIs af e:=by
 unfold ZHH ZIs ZKX;rw[YS h.1,YS h.2.1,YS h.2.2]
def ZDm (af:List Int) (l:List Ze):Prop:=∀ e∈l,EOk af e
theorem ZIl {af:List Int} {n:Nat} (haf:af.length=n) {s:Zo} (h:ZH1 n s) (hn:n<=100) (cl:List Zc) :
  Zq (λv=>ZBH af s cl v.1 v.2.1 v.2.2.1) (([]:List Ze),Bool.true,(0:Int),())=some (.inr ((cl,(Zo.Zbb s).map (ZE5 af),(Zo.Vp s).map (ZE5 af),(Zo.Exceptions s).map (ZHH af),Zo.X5 s,()),tr (ZDm af (Zo.Exceptions s)))):=by
 obtain ⟨_,h2,h3,h4,h5⟩:=h.lens;have:=JF (l:=Zo.Exceptions s) (ρ:=(List Zc×Int×Unit) ⊕ (Zo×Bool)) (λk=>(((Zo.Exceptions s).take k).map (ZHH af),tr (ZDm af ((Zo.Exceptions s).take k)),(k:Int),())) (step:=λv=>ZBH af s cl v.1 v.2.1 v.2.2.1)
  (good:=.inr ((cl,(Zo.Zbb s).map (ZE5 af),(Zo.Vp s).map (ZE5 af),(Zo.Exceptions s).map (ZHH af),Zo.X5 s,()),tr (ZDm af (Zo.Exceptions s))))
  (λk x hx hk=>by
   obtain ⟨p1,p2,p3⟩:=h.excs x (List.mem_of_getElem? hx);have hg:(((Zo.Exceptions s).take k).map (ZHH af)).length=k:=by rw[List.length_map,List.length_take];omega
   have hA:ZDm af ((Zo.Exceptions s).take (k+1))<->ZDm af ((Zo.Exceptions s).take k)/\EOk af x:=by
    unfold ZDm;rw[Yy hx];constructor
    ·exact λq=>⟨λe he=>q e (List.mem_append_left _ he),q x (List.mem_append_right _ (List.mem_singleton.2 rfl))⟩
    ·rintro ⟨q1,q2⟩ e he
     rcases List.mem_append.1 he with he | he
     ·exact q1 e he
     ·rw[List.mem_singleton.1 he];exact q2
   simp only[ZBH,show (k:Int)<((Zo.Exceptions s).length:Int) from by omega,if_true,Zu,hx,Bq,ZDR haf p1,ZDR haf p2,ZDR haf p3,Jb (show k<=1048576 by omega)];rw[Zd (by rw[hg,List.length_singleton];omega),Zd (by rw[hg,List.length_singleton];omega),Yy hx,List.map_append,show (Zo.Exceptions s).take k++[x]=(Zo.Exceptions s).take (k+1) from (Yy hx).symm,XJ hA];unfold EOk;by_cases c0:ZDm af ((Zo.Exceptions s).take k)<;>by_cases c1:LOk af (Ze.From x)<;>by_cases c2:LOk af (Ze.Through x)<;>by_cases c3:LOk af (Ze.To x) <;>
    simp only[QM,c0,c1,c2,c3,if_true,if_false,true_and,and_true,false_and,and_false,Yf,ZF,not_false_eq_true,trivial]<;>rfl)
  (by
   simp only[ZBH,Int.lt_irrefl,if_false,List.take_length];rw[Zd (by rw[List.length_nil];omega),ZEd haf hn h.ins h2,Bq,ZEd haf hn h.outs h3,Bq];rfl)
 have e0:tr (ZDm af ([]:List Ze))=true:=Yf (λe he=>by cases he);simpa[e0] using this
theorem ZFW {af:List Int} {n:Nat} (haf:af.length=n) {s:Zo} (h:ZH1 n s) (hn:n<=100) :
  ZC7 af s=some (((Zo.Yk s).map (ZIu af),(Zo.Zbb s).map (ZE5 af),(Zo.Vp s).map (ZE5 af),(Zo.Exceptions s).map (ZHH af),Zo.X5 s,()),tr (ZDm af (Zo.Exceptions s))):=by
 obtain ⟨h1,_⟩:=h.lens;unfold ZC7;have:=JF (l:=Zo.Yk s) (ρ:=Zo×Bool) (λk=>(((Zo.Yk s).take k).map (ZIu af),(k:Int),())) (step:=λv=>ZCn af s v.1 v.2.1)
  (good:=(((Zo.Yk s).map (ZIu af),(Zo.Zbb s).map (ZE5 af),(Zo.Vp s).map (ZE5 af),(Zo.Exceptions s).map (ZHH af),Zo.X5 s,()),tr (ZDm af (Zo.Exceptions s))))
  (λk x hx hk=>by
   obtain ⟨h0,h1⟩:=h.clocks x (List.mem_of_getElem? hx);simp only[ZCn,show (k:Int)<((Zo.Yk s).length:Int) from by omega,if_true,Zu,hx,Bq,ZEQ h0 (by rw[haf];exact h1),Jb (show k<=1048576 by omega)];rw[Zd (by rw[List.length_map,List.length_take,List.length_singleton];omega),Yy hx,List.map_append];rfl)
  (by
   simp only[ZCn,Int.lt_irrefl,if_false,List.take_length];exact ZIl haf h hn _)
 simpa using this
theorem ZJy {af:List Int} {l:List Ze} (h:ZDm af l):l.map (ZHH af)=l.map (ZIs af):=List.map_congr_left λe he=>ZKa (h e he)
theorem ZEN {e:ZgL} (h:sm Zug e):sm .str (ZgL.Name e)/\sm Za9 (ZgL.ZAj e):=⟨h.2.2.2.2.2.1,h.2.2.2.2.2.2.1⟩
def ZE3 (w:Zx):Prop:=Zx.Parent w=[]/\Zx.Res w=[]/\Zx.Cap w=[]/\Zx.Zjo w=[]
theorem ZJK (w:Zx) (hw:sm Za9 w):(some (Decidable.decide (Wq (Wq (Wq ((↑(List.length (Zx.Parent w)):Int)+(↑(List.length (Zx.Res w)):Int))+(↑(List.length (Zx.Cap w)):Int))+(↑(List.length (Zx.Zjo w)):Int))=(0:Int))):Option Bool)=some (tr (ZE3 w)):=by
 obtain ⟨a1,a2,a3,a4⟩:=Zp8 hw;have s1:=Zv a1;have s2:=Zv a2;have s3:=Zv a3;have s4:=Zv a4;rw[Zar (n:=((Zx.Parent w).length:Int)+((Zx.Res w).length:Int)) (by omega) (by omega),Zar (n:=((Zx.Parent w).length:Int)+((Zx.Res w).length:Int)+((Zx.Cap w).length:Int)) (by omega) (by omega),Zar (by omega) (by omega)];refine Zaf ?_;rw[decide_eq_true_eq];unfold ZE3;rw[<-List.length_eq_zero_iff,<-List.length_eq_zero_iff,<-List.length_eq_zero_iff,<-List.length_eq_zero_iff];omega
def Blank (e:ZgL):Prop :=
 (ZgL.Kind e=1/\ZgL.Net e=0/\ZgL.Node e=0/\ZgL.Name e=[]/\ZE3 (ZgL.ZAj e))\/
 (ZgL.Kind e=2/\ZgL.Net e=0/\ZgL.Node e=0/\ZE3 (ZgL.ZAj e))\/
 (ZgL.Kind e=3/\ZgL.Place e=0/\ZgL.Cell e=0/\ZgL.Net e=0/\ZgL.Node e=0/\ZgL.Name e=[]/\ZE3 (ZgL.ZAj e))\/
 (ZgL.Kind e=4/\ZgL.Cell e=0/\ZgL.Name e=[]/\ZE3 (ZgL.ZAj e))\/
 (ZgL.Kind e=5/\ZgL.Place e=0/\ZgL.Cell e=0/\ZgL.Node e=0/\ZgL.Name e=[])
theorem ZE1 (e:ZgL) (he:sm Zug e):ZEi e=some (tr (Blank e)):=by
 have hn:=ZJK (ZgL.ZAj e) (ZEN he).2;unfold ZEi;rw[hn];by_cases k1:ZgL.Kind e=1
 ·rw[if_pos k1]
  refine ZcH (Xc λ_=>Xc λ_=>Xc λ_=>rfl) ?_;unfold Blank;grind
 rw[if_neg k1];by_cases k2:ZgL.Kind e=2
 ·rw[if_pos k2]
  refine ZcH (Xc λ_=>Xc λ_=>rfl) ?_;unfold Blank;grind
 rw[if_neg k2];by_cases k3:ZgL.Kind e=3
 ·rw[if_pos k3]
  refine ZcH (Xc λ_=>Xc λ_=>Xc λ_=>Xc λ_=>Xc λ_=>rfl) ?_;unfold Blank;grind
 rw[if_neg k3];by_cases k4:ZgL.Kind e=4
 ·rw[if_pos k4]
  refine ZcH (Xc λ_=>Xc λ_=>rfl) ?_;unfold Blank;grind
 rw[if_neg k4];by_cases k5:ZgL.Kind e=5
 ·rw[if_pos k5]
  refine ZcH (Xc λ_=>Xc λ_=>Xc λ_=>Zaf decide_eq_true_iff) ?_;unfold Blank;grind
 ·rw[if_neg k5]
  refine Zm2 ?_;unfold Blank;grind
theorem ZC2 (a b:List Int) (ha:a.length<=1048576):ZAL a b=some (tr (a=b)):=by
 unfold ZAL;by_cases hl:(a.length:Int)=(b.length:Int)
 ·rw[if_pos hl,Qe (l:=a) (show Len a by unfold Len;omega) (λk x=>b[k]?=some x) (bad:=false) (good:=true)
   (λk x hx hk _=>by
    have hy:b[k]?=some b[k]:=List.getElem?_eq_getElem (by omega);simp only[ZBj,show (k:Int)<(a.length:Int) from by omega,if_true,Zu,hx,hy,Bq,Option.some.injEq];constructor
    ·intro hh;rw[if_pos hh.symm]
    ·intro hh;rw[if_neg (λq=>hh q.symm)])
   (λ_=>by simp only[ZBj,Int.lt_irrefl,if_false]),Zkg]
  congr 1;refine XJ ⟨λh=>?_,λh=>by subst h;exact λk x hx=>hx⟩;apply List.ext_getElem?;intro k;by_cases hk:k<a.length
  ·rw[h k a[k] (List.getElem?_eq_getElem hk),List.getElem?_eq_getElem hk]
  ·rw[List.getElem?_eq_none (by omega),List.getElem?_eq_none (by omega)]
 ·rw[if_neg hl,ZF (λh=>hl (by rw[h]))]
def ZIt (a b:Zx):Prop:=Zx.Parent a=Zx.Parent b/\Zx.Res a=Zx.Res b/\Zx.Cap a=Zx.Cap b/\Zx.Zjo a=Zx.Zjo b
theorem ZGH (a b:Zx) (ha:sm Za9 a):ZEg a b=some (tr (ZIt a b)):=by
 obtain ⟨a1,a2,a3,a4⟩:=Zp8 ha;have s1:=Zv a1;have s2:=Zv a2;have s3:=Zv a3;have s4:=Zv a4;unfold ZEg;exact Yw (ZC2 _ _ s1) λ_=>Yw (ZC2 _ _ s2) λ_=>Yw (ZC2 _ _ s3) λ_=>ZbP (ZC2 _ _ s4)
theorem ZCr (a b:ZgL) (ha:sm Zug a):ZDx a b=some (tr (ZgL.Kind a=ZgL.Kind b/\ZgL.Place a=ZgL.Place b/\ZgL.Cell a=ZgL.Cell b/\ZgL.Net a=ZgL.Net b/\ZgL.Node a=ZgL.Node b/\ZgL.Name a=ZgL.Name b/\ZIt (ZgL.ZAj a) (ZgL.ZAj b))):=by
 unfold ZDx;exact Xc λ_=>Xc λ_=>Xc λ_=>Xc λ_=>Xc λ_=>Xc λ_=>ZbP (ZGH _ _ (ZEN ha).2)
theorem ZKm (e:ZgL) (he:sm Zug e):(ZQ (ZgL.Kind e) 1 5=some (tr (1<=ZgL.Kind e/\ZgL.Kind e<=5)))/\∃ o,ZEe e=some o/\ZDx e o=some (tr (ZgL.Kind e<1\/5<ZgL.Kind e\/Blank e))\/(¬(1<=ZgL.Kind e/\ZgL.Kind e<=5)):=by
 refine ⟨XB _ _ _,?_⟩;unfold ZEe;by_cases k1:ZgL.Kind e=1
 ·rw[if_pos k1]
  refine ⟨_,.inl ⟨rfl,?_⟩⟩;refine ZcH (ZCr e _ he) ?_;rw[show ZIt (ZgL.ZAj e) (ZgL.ZAj (ZgL.Kind e,ZgL.Place e,ZgL.Cell e,(0:Int),(0:Int),([]:List UInt8),(([]:List Int),([]:List Int),([]:List Int),([]:List Int),()),()))<->ZE3 (ZgL.ZAj e) from Iff.rfl];unfold Blank;simp only[k1];constructor
  ·rintro ⟨_,_,_,a,b,c,d⟩;exact .inr (.inr (.inl ⟨trivial,a,b,c,d⟩))
  ·intro h;grind
 rw[if_neg k1];by_cases k2:ZgL.Kind e=2
 ·rw[if_pos k2]
  refine ⟨_,.inl ⟨rfl,?_⟩⟩;refine ZcH (ZCr e _ he) ?_;rw[show ZIt (ZgL.ZAj e) (ZgL.ZAj (ZgL.Kind e,ZgL.Place e,ZgL.Cell e,(0:Int),(0:Int),ZgL.Name e,(([]:List Int),([]:List Int),([]:List Int),([]:List Int),()),()))<->ZE3 (ZgL.ZAj e) from Iff.rfl];unfold Blank;simp only[k2];constructor
  ·rintro ⟨_,_,_,a,b,c,d⟩;exact .inr (.inr (.inr (.inl ⟨trivial,a,b,d⟩)))
  ·intro h;grind
 rw[if_neg k2];by_cases k4:ZgL.Kind e=4
 ·rw[if_pos k4]
  refine ⟨_,.inl ⟨rfl,?_⟩⟩;refine ZcH (ZCr e _ he) ?_;rw[show ZIt (ZgL.ZAj e) (ZgL.ZAj (ZgL.Kind e,ZgL.Place e,(0:Int),ZgL.Net e,ZgL.Node e,([]:List UInt8),(([]:List Int),([]:List Int),([]:List Int),([]:List Int),()),()))<->ZE3 (ZgL.ZAj e) from Iff.rfl];unfold Blank;simp only[k4];constructor
  ·rintro ⟨_,_,a,_,_,c,d⟩;exact .inr (.inr (.inr (.inr (.inr (.inl ⟨trivial,a,c,d⟩)))))
  ·intro h;grind
 rw[if_neg k4];by_cases k5:ZgL.Kind e=5
 ·rw[if_pos k5]
  refine ⟨_,.inl ⟨rfl,?_⟩⟩;refine ZcH (ZCr e _ he) ?_;rw[show ZIt (ZgL.ZAj e) (ZgL.ZAj (ZgL.Kind e,(0:Int),(0:Int),ZgL.Net e,(0:Int),([]:List UInt8),e.snd.snd.snd.snd.snd.snd))<->True from ⟨λ_=>trivial,λ_=>⟨rfl,rfl,rfl,rfl⟩⟩];unfold Blank;simp only[k5];constructor
  ·rintro ⟨_,a,b,_,c,d,_⟩;exact .inr (.inr (.inr (.inr (.inr (.inr ⟨trivial,a,b,c,d⟩)))))
  ·intro h;grind
 rw[if_neg k5];by_cases k3:ZgL.Kind e=3
 ·refine ⟨_,.inl ⟨rfl,?_⟩⟩
  refine ZcH (ZCr e _ he) ?_;rw[show ZIt (ZgL.ZAj e) (ZgL.ZAj (ZgL.Kind e,(0:Int),(0:Int),(0:Int),(0:Int),([]:List UInt8),(([]:List Int),([]:List Int),([]:List Int),([]:List Int),()),()))<->ZE3 (ZgL.ZAj e) from Iff.rfl];unfold Blank;simp only[k3];constructor
  ·rintro ⟨_,a,b,c,d,f,g⟩;exact .inr (.inr (.inr (.inr (.inl ⟨trivial,a,b,c,d,f,g⟩))))
  ·intro h;grind
 ·exact ⟨e,.inr (by omega)⟩
def ZCU (b:Zj) (e:ZgL):Prop :=
 ((ZgL.Kind e=1\/ZgL.Kind e=2)->(0<=ZgL.Place e/\ZgL.Place e<=((Zw (Zj.Design b)).length:Int)-1)/\(0<=ZgL.Cell e/\ZgL.Cell e<=((Zt.Cells (Zj.Library b)).length:Int)-1))/\
 (ZgL.Kind e=4->(0<=ZgL.Place e/\ZgL.Place e<=((Zw (Zj.Design b)).length:Int)-1)/\ZnY (Zj.Design b) (ZgL.Net e)/\∃ w,(Zj.Qg b)[(ZgL.Net e).toNat]?=some w/\(0<=ZgL.Node e/\ZgL.Node e<=((Zx.Parent w).length:Int)-1))/\
 (ZgL.Kind e=5->ZnY (Zj.Design b) (ZgL.Net e))
theorem ZDO {b:Zj} (h:ZdN b) {n:Int} (hn:ZnY (Zj.Design b) n):∃ w,(Zj.Qg b)[n.toNat]?=some w/\atI (Zj.Qg b) n=some w/\Zf2 w ((Zhl (Zj.Design b) n).length:Int):=by
 have hwn:=h.ok.2.1;have hlt:n.toNat<(Zj.Qg b).length:=by have:=hn.1;have:=hn.2;omega
 have hw:=List.getElem?_eq_getElem hlt;refine ⟨_,hw,Zbc hn.1 hw,?_⟩;have this:Zf2 _ ((Zhl (Zj.Design b) ((n.toNat:Nat):Int)).length:Int):=h.ok.2.2 n.toNat _ hw
 rwa [show ((n.toNat:Nat):Int)=n by have:=hn.1;omega] at this
theorem ZGR {b:Zj} (h:ZdN b):(Zt.Cells (Zj.Library b)).length<=1048576:=Zv (Ztf (ZnM h.sm).1)
theorem ZJL {b:Zj} (h:ZdN b) (e:ZgL) {w:Zx} (hw:(Zj.Qg b)[(ZgL.Net e).toNat]?=some w):Wq (((Zx.Parent w).length:Int)-1)=((Zx.Parent w).length:Int)-1:=by
 have:=h.ok.2.2 _ _ hw;have h1:=this.1;rw[Zar (by omega) (by omega)]
theorem ZE2 {b:Zj} (h:ZdN b) (e:ZgL) (he:sm Zug e):ZEj b e=some (tr (ZCU b e)):=by
 have hD:=h.ok.1;have hf:=hD.few;have hpl:=V9 hf;have hc:=ZGR h;have hwn:=h.ok.2.1;have h30:=hD.2.1.2.1;have e1:Wq (((Zw (Zj.Design b)).length:Int)-1)=((Zw (Zj.Design b)).length:Int)-1:=Zar (by omega) (by omega);have e2:Wq (((Zt.Cells (Zj.Library b)).length:Int)-1)=((Zt.Cells (Zj.Library b)).length:Int)-1:=Zar (by omega) (by omega);have e3:Wq (((Zj.Qg b).length:Int)-1)=((Zg.X7 (Zj.Design b)).length:Int)-1:=by rw[Zar (by omega) (by omega)];omega
 have net:(ZN (ZgL.Net e) 0 (((Zg.X7 (Zj.Design b)).length:Int)-1))=some (tr (ZnY (Zj.Design b) (ZgL.Net e))):=Qr _ _ _;unfold ZEj;rw[QA _ hf,Bq,e1,e2,e3];have pc:((ZN (ZgL.Place e) 0 (((Zw (Zj.Design b)).length:Int)-1)).bind λx=>if x=true then (ZN (ZgL.Cell e) 0 (((Zt.Cells (Zj.Library b)).length:Int)-1)).bind λy=>some y else some false) =
   some (tr ((0<=ZgL.Place e/\ZgL.Place e<=((Zw (Zj.Design b)).length:Int)-1)/\(0<=ZgL.Cell e/\ZgL.Cell e<=((Zt.Cells (Zj.Library b)).length:Int)-1))) :=
  Yw (Qr _ _ _) λ_=>ZbP (Qr _ _ _)
 have mv:((ZN (ZgL.Place e) 0 (((Zw (Zj.Design b)).length:Int)-1)).bind λx=>if x=true then (ZN (ZgL.Net e) 0 (((Zg.X7 (Zj.Design b)).length:Int)-1)).bind λy=>if y=true then
    (atI (Zj.Qg b) (ZgL.Net e)).bind λw=>(ZN (ZgL.Node e) 0 (Wq (((Zx.Parent w).length:Int)-1))).bind λz=>some z else some false else some false) =
   some (tr ((0<=ZgL.Place e/\ZgL.Place e<=((Zw (Zj.Design b)).length:Int)-1)/\ZnY (Zj.Design b) (ZgL.Net e)/\∃ w,(Zj.Qg b)[(ZgL.Net e).toNat]?=some w/\(0<=ZgL.Node e/\ZgL.Node e<=((Zx.Parent w).length:Int)-1))):=by
  refine Yw (Qr _ _ _) λ_=>Yw net λhn=>?_;obtain ⟨w,hw,ha,_⟩:=ZDO h hn;rw[ha,Bq,ZJL h e hw];refine ZcH (ZbP (Qr _ _ _)) ⟨λq=>⟨w,hw,q⟩,λ⟨w',hw',q⟩=>?_⟩;grind
 by_cases k1:ZgL.Kind e=1
 ·rw[if_pos k1,if_pos k1]
  refine ZcH pc ?_;unfold ZCU;grind
 rw[if_neg k1];by_cases k2:ZgL.Kind e=2
 ·rw[if_pos k2]
  refine ZcH pc ?_;unfold ZCU;grind
 rw[if_neg k2];by_cases k4:ZgL.Kind e=4
 ·rw[if_pos k4]
  refine ZcH mv ?_;unfold ZCU;grind
 rw[if_neg k4];by_cases k5:ZgL.Kind e=5
 ·rw[if_pos k5]
  refine ZcH (ZbP net) ?_;unfold ZCU;grind
 ·rw[if_neg k5]
  refine (Zaf (P:=ZCU b e) ⟨λ_=>?_,λ_=>rfl⟩);unfold ZCU;grind
theorem ZF8 {b:Zj} (h:ZdN b) (e:ZgL) (he:sm Zug e):ZCg e b=some (tr (Blank e/\ZCU b e)):=by
 have hD:=h.ok.1;have hf:=hD.few;have hpl:=V9 hf;have hc:=ZGR h;have hsd:=(ZnM h.sm).2.1;have e1:Wq (((Zw (Zj.Design b)).length:Int)-1)=((Zw (Zj.Design b)).length:Int)-1:=Zar (by omega) (by omega);have e2:Wq (((Zt.Cells (Zj.Library b)).length:Int)-1)=((Zt.Cells (Zj.Library b)).length:Int)-1:=Zar (by omega) (by omega);obtain ⟨hw,o,ho⟩:=ZKm e he;unfold ZCg;rw[hw,Bq];by_cases hk:1<=ZgL.Kind e/\ZgL.Kind e<=5
 ·rw[if_pos (Yf hk)]
  rcases ho with ⟨ho1,ho2⟩ | ho
  ·rw[ho1,Bq,ho2,Bq]
   by_cases hB:Blank e
   ·rw[if_pos (Yf (.inr (.inr hB))),Q5 _ hf,Bq,show XL (Zw (Zj.Design b))=some ((Zw (Zj.Design b)).length:Int) from rfl,Bq,e1,XB,Bq,
     show Jz (Zt.Cells (Zj.Library b))=some ((Zt.Cells (Zj.Library b)).length:Int) from rfl]
    simp only[Bq,e2];have net:=ZcN (Zj.Design b) (ZgL.Net e) hsd;have pc:(if tr (0<=ZgL.Place e/\ZgL.Place e<=((Zw (Zj.Design b)).length:Int)-1)=true then (ZQ (ZgL.Cell e) 0 (((Zt.Cells (Zj.Library b)).length:Int)-1)).bind λy=>some y else some false) =
      some (tr ((0<=ZgL.Place e/\ZgL.Place e<=((Zw (Zj.Design b)).length:Int)-1)/\(0<=ZgL.Cell e/\ZgL.Cell e<=((Zt.Cells (Zj.Library b)).length:Int)-1))) :=
     ZKZ (ZbP (XB _ _ _))
    by_cases k1:ZgL.Kind e=1
    ·rw[if_pos k1,if_pos k1]
     refine ZcH pc ?_;unfold ZCU;grind
    rw[if_neg k1];by_cases k2:ZgL.Kind e=2
    ·rw[if_pos k2]
     refine ZcH pc ?_;unfold ZCU;grind
    rw[if_neg k2];by_cases k4:ZgL.Kind e=4
    ·rw[if_pos k4]
     have mv:(if tr (0<=ZgL.Place e/\ZgL.Place e<=((Zw (Zj.Design b)).length:Int)-1)=true then (XR (Zj.Design b) (ZgL.Net e)).bind λy=>if y=true then
        (atI (Zj.Qg b) (ZgL.Net e)).bind λw=>(Xl (Zx.Parent w)).bind λn=>(ZQ (ZgL.Node e) 0 (Wq (n-1))).bind λz=>some z else some false else some false) =
       some (tr ((0<=ZgL.Place e/\ZgL.Place e<=((Zw (Zj.Design b)).length:Int)-1)/\ZnY (Zj.Design b) (ZgL.Net e)/\∃ w,(Zj.Qg b)[(ZgL.Net e).toNat]?=some w/\(0<=ZgL.Node e/\ZgL.Node e<=((Zx.Parent w).length:Int)-1))):=by
      by_cases hp:0<=ZgL.Place e/\ZgL.Place e<=((Zw (Zj.Design b)).length:Int)-1
      ·rw[if_pos (Yf hp)]
       refine ZcH (Yw net λhn=>?_) (P:=ZnY (Zj.Design b) (ZgL.Net e)/\∃ w,(Zj.Qg b)[(ZgL.Net e).toNat]?=some w/\(0<=ZgL.Node e/\ZgL.Node e<=((Zx.Parent w).length:Int)-1)) ⟨λq=>⟨hp,q⟩,λq=>q.2⟩;obtain ⟨w,hw,ha,_⟩:=ZDO h hn;rw[ha,Bq,Zah,Bq,ZJL h e hw];refine ZcH (ZbP (XB _ _ _)) ⟨λq=>⟨w,hw,q⟩,λ⟨w',hw',q⟩=>?_⟩;grind
      ·rw[if_neg (λq=>hp ((QM _).1 q)),ZF (λq=>hp q.1)]
     refine ZcH mv ?_;unfold ZCU;grind
    rw[if_neg k4];by_cases k5:ZgL.Kind e=5
    ·rw[if_pos k5]
     refine ZcH (ZbP net) ?_;unfold ZCU;grind
    ·rw[if_neg k5]
     refine (Zaf (P:=Blank e/\ZCU b e) ⟨λ_=>⟨hB,?_⟩,λ_=>rfl⟩);unfold ZCU;grind
   ·rw[if_neg (λq=>by rcases (QM _).1 q with q | q | q<;>first | omega | exact hB q),ZF (λq=>hB q.1)]
  ·exact absurd hk ho
 ·rw[if_neg (λq=>hk ((QM _).1 q)),ZF (λq=>?_)]
  have:=q.1;unfold Blank at this;omega
theorem ZJ5 (a b:Zk) (ha:sm V6 a):ZEf a b=ZA2 a b/\∃ r,ZA2 a b=some r:=by
 have s1:(Zk.Yz a).length<=1048576:=by have:=(ZtC ha).pins.1;omega
 unfold ZEf ZA2 ZAw;by_cases k:Zk.Kind a=Zk.Kind b
 ·rw[if_pos k,if_pos k]
  by_cases hl:((Zk.Yz a).length:Int)=((Zk.Yz b).length:Int)
  ·rw[if_pos hl,if_pos hl]
   rw[Qe (l:=Zk.Yz a) (show Len _ by unfold Len;omega) (λk x=>∀ y,(Zk.Yz b)[k]?=some y->(Yv.Clock x == Yv.Clock y)=true) (bad:=false) (good:=true)
    (step:=λv=>ZAq (Zk.Yz a) (Zk.Yz b) v.1)
    (λk x hx hk _=>by
     have hy:(Zk.Yz b)[k]?=some (Zk.Yz b)[k]:=List.getElem?_eq_getElem (by omega);simp only[ZAq,ZEb,show (k:Int)<((Zk.Yz a).length:Int) from by omega,if_true,Zu,hx,hy,Bq,Option.some.injEq,forall_eq'];grind)
    (λ_=>by simp only[ZAq,Int.lt_irrefl,if_false]),
    Qe (l:=Zk.Yz a) (show Len _ by unfold Len;omega) (λk x=>∀ y,(Zk.Yz b)[k]?=some y->(Yv.Clock x == Yv.Clock y)=true) (bad:=false) (good:=true)
    (step:=λv=>ZA4 a b v.1)
    (λk x hx hk _=>by
     have hy:(Zk.Yz b)[k]?=some (Zk.Yz b)[k]:=List.getElem?_eq_getElem (by omega);simp only[ZA4,show (k:Int)<((Zk.Yz a).length:Int) from by omega,if_true,Zu,hx,hy,Bq,Option.some.injEq,forall_eq'];grind)
    (λ_=>by simp only[ZA4,Int.lt_irrefl,if_false])]
   grind
  grind
 grind
theorem ZFb (d:Zg) (s:List UInt8) (hd:sm YU d):ZCH d s=some (Zdq (λx=>decide (Zl.Name x=s)) (Zg.Instances d))/\ZCI d s=some (Zdq (λx=>decide (Zl.Name x=s)) (Zg.Instances d)):=by
 have hl:=Yt (Zjh hd).1;constructor
 ·unfold ZCH
  rw[ZAV hl (λx=>decide (Zl.Name x=s)) (λx _=>rfl),Bq]
 ·unfold ZCI
  refine Za4 hl (out:=λi=>i) (λk x hx=>?_) ?_
  ·have hk:=(List.getElem?_eq_some_iff.1 hx).1
   simp only[ZB7,show (k:Int)<((Zg.Instances d).length:Int) from by omega,if_true,Zu,hx,Bq,decide_eq_true_eq];split<;>rfl
  ·simp only[ZB7,Int.lt_irrefl,if_false]
theorem ZFF (d:Zg) (s:List UInt8) (hd:sm YU d):ZBW d s=some (Zdq (λx=>decide (s=x)) (Zg.X7 d))/\ZEh d s=some (Zdq (λx=>decide (s=x)) (Zg.X7 d)):=by
 have hl:=Yt (Zjh hd).2.2;constructor
 ·unfold ZBW
  rw[ZD0 hl,Bq]
 ·unfold ZEh ZEX
  rw[Za4 hl (p:=λx=>decide (s=x)) (out:=λi=>i) (λk x hx=>by
   have hk:=(List.getElem?_eq_some_iff.1 hx).1;simp only[ZDo,show (k:Int)<((Zg.X7 d).length:Int) from by omega,if_true,Zu,hx,Bq,decide_eq_true_eq];grind) (by simp only[ZDo,Int.lt_irrefl,if_false]),Bq]
def ZEI (b:Zj):Prop:=∃ (x:Zl) (c:Zk) (w:Zx) (m:Int),
 0<(Zg.Instances (Zj.Design b)).length/\(Zg.Instances (Zj.Design b))[(Zg.Instances (Zj.Design b)).length-1]?=some x/\
 (Zt.Cells (Zj.Library b))[(Zl.Cell x).toNat]?=some c/\Zk.Kind c=1/\(Zk.Yz c).length=2/\
 (Zl.X7 x).length=2/\atI (Zl.X7 x) 0=some m/\atI (Zl.X7 x) 1=some (((Zg.X7 (Zj.Design b)).length:Int)-1)/\m≠((Zg.X7 (Zj.Design b)).length:Int)-1/\
 atI (Zg.X7 (Zj.Design b)) (((Zg.X7 (Zj.Design b)).length:Int)-1)=some (Zl.Name x)/\
 atI (Zj.Qg b) (((Zg.X7 (Zj.Design b)).length:Int)-1)=some w/\(Zx.Zjo w).length=1/\(Zhl (Zj.Design b) (((Zg.X7 (Zj.Design b)).length:Int)-1)).length=1/\(Zx.Parent w).length=1/\atI (Zx.Cap w) 0=some 0
theorem ZJ9 {b:Zj} (h:ZdN b):∃ r,ZBI b=some r/\ZDv b=some r/\
  (r=true->ZEI b):=by
 have hD:=h.ok.1;have hf:=hD.few;have h14:=hf.insts;have h30:=hD.2.1.2.1;have hwn:=h.ok.2.1;unfold ZBI ZDv;by_cases hn:((Zg.Instances (Zj.Design b)).length:Int)=0
 ·rw[if_pos hn,hn,Zar (by omega) (by omega),if_pos (by omega)]
  grind
 rw[if_neg hn,Zar (n:=((Zg.Instances (Zj.Design b)).length:Int)-1) (by omega) (by omega),if_neg (by omega)];have hlt:(Zg.Instances (Zj.Design b)).length-1<(Zg.Instances (Zj.Design b)).length:=by omega
 have hx:=List.getElem?_eq_getElem hlt;generalize (Zg.Instances (Zj.Design b))[(Zg.Instances (Zj.Design b)).length-1]=x at hx;have hx2:atI (Zg.Instances (Zj.Design b)) (((Zg.Instances (Zj.Design b)).length:Int)-1)=some x:=Zbc (by omega) (by simp_all);obtain ⟨⟨c0,c1⟩,⟨c,hc,hnp⟩,hnet⟩:=hD.2.2.1 x (List.mem_of_getElem? hx);have hc2:atI (Zt.Cells (Zj.Library b)) (Zl.Cell x)=some c:=Zbc c0 hc;rw[hx2];simp only[Bq,hc2,show Zbo (Zg.X7 (Zj.Design b))=some ((Zg.X7 (Zj.Design b)).length:Int) from rfl];rw[show ZBn c=ZBu c from rfl];have hbuf:ZBu c=some (tr (Zk.Kind c=1/\(Zk.Yz c).length=2)):=by
  unfold ZBu;refine ZcH (Xc λ_=>Zaf decide_eq_true_iff) ?_;omega
 rw[hbuf,Bq,Bq];by_cases hb:Zk.Kind c=1/\(Zk.Yz c).length=2
 ·rw[if_pos (Yf hb),if_pos (Yf hb)]
  have hl2:(Zl.X7 x).length=2:=by rw[hnp];exact hb.2
  have n0:atI (Zl.X7 x) 0=some ((Zl.X7 x)[0]'(by omega)):=List.getElem?_eq_getElem (by omega);have n1:atI (Zl.X7 x) 1=some ((Zl.X7 x)[1]'(by omega)):=List.getElem?_eq_getElem (by omega);have hn1:=hnet ((Zl.X7 x)[1]'(by omega)) (List.getElem_mem _);have hpos:1<=(Zg.X7 (Zj.Design b)).length:=by have:=hn1.1;have:=hn1.2;omega
  generalize (Zl.X7 x)[1]'(by omega)=m1 at n1 hn1;generalize (Zl.X7 x)[0]'(by omega)=m0 at n0;have eL:Wq (((Zg.X7 (Zj.Design b)).length:Int)-1)=((Zg.X7 (Zj.Design b)).length:Int)-1:=Zar (by omega) (by omega);have eW:Wq (((Zj.Qg b).length:Int)-1)=((Zg.X7 (Zj.Design b)).length:Int)-1:=by grind
  have hL:ZnY (Zj.Design b) (((Zg.X7 (Zj.Design b)).length:Int)-1):=⟨by omega,by omega⟩;obtain ⟨w,hw1,hw2,hw3⟩:=ZDO h hL;have nL:atI (Zg.X7 (Zj.Design b)) (((Zg.X7 (Zj.Design b)).length:Int)-1)=some ((Zg.X7 (Zj.Design b))[(Zg.X7 (Zj.Design b)).length-1]'(by omega)):=Zbc (by omega) (by
   simp_all)
  generalize (Zg.X7 (Zj.Design b))[(Zg.X7 (Zj.Design b)).length-1]'(by omega)=nm at nL;have hcap:atI (Zx.Cap w) 0=some ((Zx.Cap w)[0]'(by have:=hw3.1;have:=hw3.2.2.1;omega)):=List.getElem?_eq_getElem (by have:=hw3.1;have:=hw3.2.2.1;omega);generalize (Zx.Cap w)[0]'(by have:=hw3.1;have:=hw3.2.2.1;omega)=cp at hcap;have hsk:=hw3.2.2.2.1;simp only[eL,eW,n0,n1,nL,hw2,Bq,ZkH _ _ hf,ZED,hcap];rw[<-hsk];by_cases q1:m1=((Zg.X7 (Zj.Design b)).length:Int)-1
  ·rw[if_pos q1,if_pos q1]
   by_cases q2:m0=((Zg.X7 (Zj.Design b)).length:Int)-1
   ·simp_all
   ·rw[if_neg q2]
    by_cases q3:nm=Zl.Name x
    ·rw[if_pos q3,if_pos q3]
     simp only[if_neg q2];by_cases q4:((Zx.Zjo w).length:Int)=1
     ·rw[if_pos q4,if_pos q4]
      by_cases q5:((Zx.Parent w).length:Int)=1
      ·simp only[if_pos q5]
       refine ⟨_,rfl,rfl,λq=>?_⟩;have q6:=of_decide_eq_true q;subst q1 q6;exact ⟨x,c,w,m0,by omega,hx,hc,hb.1,hb.2,hl2,n0,n1,q2,by rw[nL,q3],hw2,by omega,by omega,by omega,hcap⟩
      ·simp only[if_neg q5]
       exact ⟨_,rfl,rfl,λq=>by cases q⟩
     simp_all
    simp_all
  simp_all
 ·rw[if_neg (λq=>hb ((QM _).1 q)),if_neg (λq=>hb ((QM _).1 q))]
  grind
theorem ZIv {b:Zj} (h:ZdN b) {i:Int} (h0:0<=i) (h1:i<=((Zt.Cells (Zj.Library b)).length:Int)-1):∃ c,atI (Zt.Cells (Zj.Library b)) i=some c/\sm V6 c:=by
 have hlt:i.toNat<(Zt.Cells (Zj.Library b)).length:=by omega
 have hc:=List.getElem?_eq_getElem hlt;exact ⟨_,Zbc h0 hc,ZeM (Ztf (ZnM h.sm).1) hc⟩
theorem ZHR {b:Zj} (h:ZdN b) {i:Int} (h0:0<=i) (h1:i<=((Zw (Zj.Design b)).length:Int)-1):∃ p,atI (Zw (Zj.Design b)) i=some p/\p∈Zw (Zj.Design b):=by
 have hlt:i.toNat<(Zw (Zj.Design b)).length:=by omega
 have hc:=List.getElem?_eq_getElem hlt;exact ⟨_,Zbc h0 hc,List.getElem_mem _⟩
theorem ZI6 {d:Zg} {p:Pl} (hp:p∈Zw d) (h0:0<=p.1):∃ x,(Zg.Instances d)[p.1.toNat]?=some x/\x∈Zg.Instances d:=by
 unfold Zw at hp;rcases List.mem_append.1 hp with hp | hp
 ·obtain ⟨i,z,hi,hz⟩:=ZdH.1 hp
  unfold Zhx at hz;obtain ⟨j,n,hj,hn⟩:=ZdH.1 hz;grind
 ·obtain ⟨j,q,hj,hq⟩:=ZdH.1 hp
  simp only[Zi7,List.mem_singleton] at hq;grind
theorem ZEI.two {b:Zj} (h:ZEI b):0<(Zg.Instances (Zj.Design b)).length/\∃ x,(Zg.Instances (Zj.Design b))[(Zg.Instances (Zj.Design b)).length-1]?=some x/\(Zl.X7 x).length=2:=by
 obtain ⟨x,c,w,m,h1,h2,_,_,_,h3,_⟩:=h;grind
def ZCd (b:Zj) (e:ZgL) (p:Pl):Prop:=0<=ZgL.Place e/\(Zw (Zj.Design b))[(ZgL.Place e).toNat]?=some p
theorem ZHG {b:Zj} {e:ZgL} {p:Pl} (h0:0<=ZgL.Place e) (hp:atI (Zw (Zj.Design b)) (ZgL.Place e)=some p):ZCd b e p:=by
 refine ⟨h0,?_⟩;rw[show ZgL.Place e=(((ZgL.Place e).toNat:Nat):Int) by omega,Zu] at hp;exact hp
theorem ZCd.mem {b:Zj} {e:ZgL} {p:Pl} (h:ZCd b e p):p∈Zw (Zj.Design b):=List.mem_of_getElem? h.2
theorem ZCd.at {b:Zj} {e:ZgL} {p:Pl} (h:ZCd b e p):atI (Zw (Zj.Design b)) (ZgL.Place e)=some p:=Zbc h.1 h.2
def ZKz (b:Zj) (e:ZgL):Prop :=
 (ZgL.Kind e=1->∃ (p:Pl) (x:Zl) (c c2:Zk),ZCd b e p/\0<=p.1/\p.2.2.2.1=true/\atI (Zg.Instances (Zj.Design b)) p.1=some x/\atI (Zt.Cells (Zj.Library b)) (Zl.Cell x)=some c/\atI (Zt.Cells (Zj.Library b)) (ZgL.Cell e)=some c2/\ZA2 c c2=some true)/\
 (ZgL.Kind e=2->∃ (p:Pl) (c:Zk),ZCd b e p/\p.2.2.2.1=false/\atI (Zt.Cells (Zj.Library b)) (ZgL.Cell e)=some c/\Zk.Kind c=1/\(Zk.Yz c).length=2/\QL (ZgL.Name e)=true/\
  Zdq (λx=>decide (Zl.Name x=ZgL.Name e)) (Zg.Instances (Zj.Design b))<0/\Zdq (λx=>decide (ZgL.Name e=x)) (Zg.X7 (Zj.Design b))<0)/\
 (ZgL.Kind e=3->ZEI b)/\
 (ZgL.Kind e=4->∃ p:Pl,ZCd b e p/\p.2.2.2.1=false/\p.2.2.1≠ZgL.Net e)/\
 (ZgL.Kind e=5->Zf2 (ZgL.ZAj e) ((Zhl (Zj.Design b) (ZgL.Net e)).length:Int))
theorem ZIB {b:Zj} (h:ZdN b) (e:ZgL) (he:sm Zug e) (hB:Blank e) (hR:ZCU b e):∃ r,ZBX e b=some r/\ZC6 b e=some r/\
  (r=true->ZKz b e):=by
 have hD:=h.ok.1;have hf:=hD.few;have hsd:=(ZnM h.sm).2.1;obtain ⟨he1,he2⟩:=ZEN he;unfold ZBX ZC6;rw[Q5 _ hf,QA _ hf,Bq,Bq];by_cases k1:ZgL.Kind e=1
 ·rw[if_pos k1,if_pos k1]
  obtain ⟨⟨p0,p1⟩,c0,c1⟩:=hR.1 (.inl k1);obtain ⟨p,hp,hpm⟩:=ZHR h p0 p1;obtain ⟨c2,hc2,hc2s⟩:=ZIv h c0 c1;rw[hp];simp only[Bq,hc2];by_cases q1:(0:Int)<=p.1
  ·rw[if_pos q1,if_pos q1]
   by_cases q2:p.2.2.2.1=true
   ·rw[if_pos q2,if_pos q2]
    obtain ⟨x,hx,hxm⟩:=ZI6 hpm q1;have hx2:atI (Zg.Instances (Zj.Design b)) p.1=some x:=Zbc q1 hx;obtain ⟨⟨d0,d1⟩,_,_⟩:=hD.2.2.1 x hxm;obtain ⟨c,hc,hcs⟩:=ZIv h d0 d1;obtain ⟨a1,r,a2⟩:=ZJ5 c c2 hcs;have e1:YA.instance p=p.1:=rfl;have e2:Ya.instance p=p.1:=rfl;simp only[e1,e2,hx2,Bq,hc,a1,a2];exact ⟨r,rfl,rfl,λq=>⟨λ_=>⟨p,x,c,c2,ZHG p0 hp,q1,q2,hx2,hc,hc2,by rw[a2,q]⟩,λk=>by omega,λk=>by omega,λk=>by omega,λk=>by omega⟩⟩
   simp_all
  ·rw[if_neg q1,if_neg q1]
   grind
 rw[if_neg k1,if_neg k1];by_cases k2:ZgL.Kind e=2
 ·rw[if_pos k2,if_pos k2]
  obtain ⟨⟨p0,p1⟩,c0,c1⟩:=hR.1 (.inr k2);obtain ⟨p,hp,hpm⟩:=ZHR h p0 p1;obtain ⟨c2,hc2,hc2s⟩:=ZIv h c0 c1;have hbuf:ZBu c2=some (tr (Zk.Kind c2=1/\(Zk.Yz c2).length=2)):=by
   unfold ZBu;refine ZcH (Xc λ_=>Zaf decide_eq_true_iff) ?_;omega
  have hlN:(ZgL.Name e).length<=4611686018427387904:=by have:((ZgL.Name e).length:Int)<=1048576:=he1;omega
  rw[hp];simp only[Bq,hc2,show ZBn c2=ZBu c2 from rfl,hbuf,Zet,JJ _ hlN,(ZFb _ (ZgL.Name e) hsd).1,(ZFb _ (ZgL.Name e) hsd).2,(ZFF _ (ZgL.Name e) hsd).1,(ZFF _ (ZgL.Name e) hsd).2];have e1:YA.drives p=p.2.2.2.1:=rfl;have e2:Ya.drives p=p.2.2.2.1:=rfl;rw[e1,e2];by_cases q2:p.2.2.2.1=true
  ·grind
  simp only[if_neg q2];by_cases q3:tr (Zk.Kind c2=1/\(Zk.Yz c2).length=2)=true
  ·simp only[if_pos q3]
   by_cases q4:QL (ZgL.Name e)=true
   ·simp only[if_pos q4]
    split
    ·rename_i q5
     refine ⟨_,rfl,rfl,λq=>⟨λk=>by omega,λ_=>⟨p,c2,ZHG p0 hp,by simpa using q2,hc2,((QM _).1 q3).1,((QM _).1 q3).2,q4,q5,of_decide_eq_true q⟩,λk=>by omega,λk=>by omega,λk=>by omega⟩⟩
    grind
   grind
  grind
 rw[if_neg k2,if_neg k2];by_cases k3:ZgL.Kind e=3
 ·rw[if_pos k3,if_pos k3]
  obtain ⟨r,a,c,d⟩:=ZJ9 h;rw[a,c];exact ⟨r,rfl,rfl,λq=>⟨λk=>by omega,λk=>by omega,λ_=>d q,λk=>by omega,λk=>by omega⟩⟩
 rw[if_neg k3,if_neg k3];by_cases k4:ZgL.Kind e=4
 ·rw[if_pos k4,if_pos k4]
  obtain ⟨⟨p0,p1⟩,_⟩:=hR.2.1 k4;obtain ⟨p,hp,hpm⟩:=ZHR h p0 p1;rw[hp];simp only[Bq];have e1:YA.drives p=p.2.2.2.1:=rfl;have e2:Ya.drives p=p.2.2.2.1:=rfl;rw[e1,e2];by_cases q2:p.2.2.2.1=true
  ·simp_all
  ·simp only[if_neg q2]
   refine ⟨_,rfl,rfl,λq=>⟨λk=>by omega,λk=>by omega,λk=>by omega,λ_=>⟨p,ZHG p0 hp,by simpa using q2,by grind⟩,λk=>by omega⟩⟩
 rw[if_neg k4,if_neg k4];have k5:ZgL.Kind e=5:=by unfold Blank at hB;omega
 obtain ⟨w,hw1,hw2,hw3⟩:=ZDO h (hR.2.2 k5);rw[hw2,ZkH _ _ hf];simp only[Bq,Zah,Zmk _ _ he2,ZmG _ _ he2,hw3.2.2.2.1];exact ⟨_,rfl,rfl,λq=>⟨λk=>by omega,λk=>by omega,λk=>by omega,λk=>by omega,λ_=>(QM _).1 q⟩⟩
structure ZCe (b:Zj) (e:ZgL):Prop where
 blk:ZdN b
 blank:Blank e
 range:ZCU b e
 poss:ZKz b e
 lim:ZgL.Kind e=2->(Zg.Instances (Zj.Design b)).length<=13/\(Zg.X7 (Zj.Design b)).length<=29
theorem ZCe.last {b:Zj} {e:ZgL} (h:ZCe b e) (k3:ZgL.Kind e=3):0<(Zg.Instances (Zj.Design b)).length/\∃ x,(Zg.Instances (Zj.Design b))[(Zg.Instances (Zj.Design b)).length-1]?=some x/\(Zl.X7 x).length=2:=(h.poss.2.2.1 k3).two
theorem ZDY {b:Zj} (h:ZdN b) (e:ZgL) (he:sm Zug e):∃ c,ZBx e b=some c/\ZA0 b e=some c/\(c=0->ZCe b e):=by
 have hB:=h.ok;unfold ZA0 ZBx;rw[Zgs b h.sm,Bq,if_pos (Yf hB)]
 ·have hwn:=hB.2.1
  rw[ZF8 h e he,ZE1 e he,ZE2 h e he];simp only[Bq];by_cases h1:Blank e
  ·rw[if_pos (Yf h1)]
   by_cases h2:ZCU b e
   ·rw[if_pos (Yf ⟨h1,h2⟩),if_pos (Yf h2)]
    obtain ⟨r,a,c,d⟩:=ZIB h e he h1 h2;rw[a,c];simp only[Bq];by_cases hr:r=true
    ·rw[if_pos hr,if_pos hr]
     have h14:=hB.1.few.insts;have h30:=hB.1.2.1.2.1;by_cases k2:ZgL.Kind e=2
     ·rw[if_pos k2,if_pos k2]
      by_cases q1:((Zg.Instances (Zj.Design b)).length:Int)=14
      ·simp_all
      ·rw[if_neg q1,if_neg q1]
       by_cases q2:((Zg.X7 (Zj.Design b)).length:Int)=30
       ·simp_all
       ·rw[if_neg q2,if_neg (by omega)]
        exact ⟨_,rfl,rfl,λ_=>⟨h,h1,h2,d hr,λ_=>⟨by omega,by omega⟩⟩⟩
     ·rw[if_neg k2,if_neg k2]
      exact ⟨_,rfl,rfl,λ_=>⟨h,h1,h2,d hr,λk=>absurd k k2⟩⟩
    simp_all
   ·rw[if_neg (λq=>h2 ((QM _).1 q).2),if_neg (λq=>h2 ((QM _).1 q))]
    grind
  ·rw[if_neg (λq=>h1 ((QM _).1 q).1),if_neg (λq=>h1 ((QM _).1 q))]
   grind
theorem ZCf {α β:Type} {g:Nat->α->β}:∀ (l:List α) (m j:Nat),(cat (λj n=>[g j n]) m l)[j]?=(l[j]?).map (g (m+j))
 | [],m,j=>by simp[cat]
 | x::r,m,0=>by simp[cat]
 | x::r,m,j+1=>by
  simp only[cat,List.singleton_append,List.getElem?_cons_succ,ZCf r];grind
theorem ZBV {α β:Type} {g:Nat->α->β}:∀ (l:List α) (m:Nat),(cat (λj n=>[g j n]) m l).length=l.length
 | [],m=>rfl
 | x::r,m=>by simp only[cat,List.singleton_append,List.length_cons,ZBV r]
theorem ZFw {α β:Type} {g:Nat->α->β} (y:α):∀ (l:List α) (m j:Nat),cat (λj n=>[g j n]) m (l.set j y)=(cat (λj n=>[g j n]) m l).set j (g (m+j) y)
 | [],m,j=>by simp[cat]
 | x::r,m,0=>by simp[cat]
 | x::r,m,j+1=>by
  simp only[cat,List.singleton_append,List.set_cons_succ,ZFw y r];grind
theorem ZEq {α β:Type} (f:Nat->α->List β) {l:List α} {i:Nat} {x:α} (hx:l[i]?=some x):cat f 0 l=cat f 0 (l.take i)++(f i x++cat f (i+1) (l.drop (i+1))):=by
 have hi:=(List.getElem?_eq_some_iff.1 hx).1;have e:l=l.take i++(x::l.drop (i+1)):=by
  have hd:l.drop i=x::l.drop (i+1):=by
   rw[List.drop_eq_getElem_cons hi];grind
  rw[<-hd,List.take_append_drop]
 have e2:=congrArg (cat f 0) e;rw[ZmP] at e2;simp only[cat,Nat.zero_add,List.length_take] at e2;grind
theorem ZKG {α β:Type} (f:Nat->α->List β) {l:List α} {i j:Nat} {x y:α} {z:β} (hx:l[i]?=some x) (hj:j<(f i x).length) (hy:f i y=(f i x).set j z):cat f 0 (l.set i y)=(cat f 0 l).set ((cat f 0 (l.take i)).length+j) z:=by
 have hi:=(List.getElem?_eq_some_iff.1 hx).1;rw[ZEq f hx,ZEq f (l:=l.set i y) (x:=y) (List.getElem?_set_self hi),List.take_set,List.set_eq_of_length_le (by grind),List.drop_set_of_lt (by omega),hy,List.set_append,if_neg (by omega),List.set_append,if_pos (by omega),Nat.add_sub_cancel_left]
abbrev ZEz (d:Zg) (i:Nat):Nat:=(cat Zhx 0 ((Zg.Instances d).take i)).length
abbrev ZAv (d:Zg):Nat:=(cat Zhx 0 (Zg.Instances d)).length
def ZCC (i:Nat) (x:Zl) (j:Nat) (n:Int):Pl:=((i:Int),(j:Int),n,decide ((j:Int)=Wq (((Zl.X7 x).length:Int)-1)),())
theorem ZFQ (i:Nat) (x:Zl):Zhx i x=cat (λj n=>[ZCC i x j n]) 0 (Zl.X7 x):=rfl
theorem ZC0 {i:Nat} {x:Zl} {j:Nat} {n:Int} (h:(Zl.X7 x)[j]?=some n):(Zhx i x)[j]?=some (ZCC i x j n):=by
 rw[ZFQ,ZCf,h,Nat.zero_add];rfl
theorem ZAY (i:Nat) (x:Zl):(Zhx i x).length=(Zl.X7 x).length:=by rw[ZFQ,ZBV]
theorem ZFT (l:List Ye) (m:Nat):cat Zi7 m l=cat (λj p=>[((-1:Int),(j:Int),Ye.Net p,decide (Ye.Dir p=1),())]) m l:=rfl
theorem ZIf (l:List Ye) (m:Nat):(cat Zi7 m l).length=l.length:=by rw[ZFT,ZBV]
theorem ZDs {d:Zg} {i j:Nat} {x:Zl} {n:Int} (hx:(Zg.Instances d)[i]?=some x) (hn:(Zl.X7 x)[j]?=some n):(Zw d)[ZEz d i+j]?=some (ZCC i x j n):=by
 have hj:=(List.getElem?_eq_some_iff.1 hn).1;unfold Zw;rw[ZEq Zhx hx,List.append_assoc,List.getElem?_append_right (by unfold ZEz;omega),show ZEz d i+j-(cat Zhx 0 ((Zg.Instances d).take i)).length=j by unfold ZEz;omega,List.append_assoc,List.getElem?_append_left (by rw[ZAY];exact hj)];exact ZC0 hn
theorem ZHT {d:Zg} {j:Nat} {q:Ye} (hq:(Zg.Xb d)[j]?=some q):(Zw d)[ZAv d+j]?=some ((-1:Int),(j:Int),Ye.Net q,decide (Ye.Dir q=1),()):=by
 unfold Zw;rw[List.getElem?_append_right (by unfold ZAv;omega),show ZAv d+j-(cat Zhx 0 (Zg.Instances d)).length=j by unfold ZAv;omega,ZFT,ZCf,hq,Nat.zero_add];rfl
theorem ZBg {d:Zg} {k:Nat} {p:Pl} (hp:(Zw d)[k]?=some p) :
  (∃ (i j:Nat) (x:Zl) (n:Int),(Zg.Instances d)[i]?=some x/\(Zl.X7 x)[j]?=some n/\k=ZEz d i+j/\p=ZCC i x j n)\/
  (∃ (j:Nat) (q:Ye),(Zg.Xb d)[j]?=some q/\k=ZAv d+j/\p=((-1:Int),(j:Int),Ye.Net q,decide (Ye.Dir q=1),())):=by
 by_cases hk:k<ZAv d
 ·left
  have h1:(cat Zhx 0 (Zg.Instances d))[k]?=some p:=by
   unfold Zw at hp;grind
  have find:∀ (n:Nat),n<=(Zg.Instances d).length->k<ZEz d n->∃ i,i<n/\ZEz d i<=k/\k<ZEz d (i+1):=by
   intro n;induction n with
   | zero=>intro _ h;simp[ZEz,cat] at h
   | succ n ih =>
    grind
  obtain ⟨i,hi,hlo,hhi⟩:=find (Zg.Instances d).length (Nat.le_refl _) (by grind);have hx:(Zg.Instances d)[i]?=some (Zg.Instances d)[i]:=List.getElem?_eq_getElem hi;generalize (Zg.Instances d)[i]=x at hx;have hs:ZEz d (i+1)=ZEz d i+(Zl.X7 x).length:=by
   unfold ZEz;rw[Zsq hx,List.length_append,ZAY]
  have hj:k-ZEz d i<(Zl.X7 x).length:=by omega
  have hn:(Zl.X7 x)[k-ZEz d i]?=some (Zl.X7 x)[k-ZEz d i]:=List.getElem?_eq_getElem hj;generalize (Zl.X7 x)[k-ZEz d i]=n at hn;refine ⟨i,k-ZEz d i,x,n,hx,hn,by omega,?_⟩;have h2:=ZDs hx hn;grind
 ·right
  have h1:(cat Zi7 0 (Zg.Xb d))[k-ZAv d]?=some p:=by
   unfold Zw at hp;grind
  rw[ZFT,ZCf,Nat.zero_add] at h1;grind
theorem key_inj {d:Zg} {k k':Nat} {p p':Pl} (hp:(Zw d)[k]?=some p) (hp':(Zw d)[k']?=some p') (h1:p.1=p'.1) (h2:p.2.1=p'.2.1):k=k':=by
 rcases ZBg hp with ⟨i,j,x,n,_,_,e,rfl⟩ | ⟨j,q,_,e,rfl⟩<;>rcases ZBg hp' with ⟨i',j',x',n',_,_,e',rfl⟩ | ⟨j',q',_,e',rfl⟩
 ·simp only[ZCC] at h1 h2
  grind
 ·simp only[ZCC] at h1;omega
 ·simp only[ZCC] at h1;omega
 grind
def ZCt (x:Zl) (j:Nat) (n:Int):Zl:=(Zl.Name x,Zl.Cell x,List.set (Zl.X7 x) j n,())
def setPort (q:Ye) (n:Int):Ye:=(Ye.Name q,Ye.Dir q,n,())
def ZAE (d:Zg) (a b:Int) (n:Int):Zg :=
 if a<0 then (Zg.Instances d,Zg.X7 d,match (Zg.Xb d)[b.toNat]? with
  | some q=>(Zg.Xb d).set b.toNat (setPort q n)
  | none=>Zg.Xb d,())
 else (match (Zg.Instances d)[a.toNat]? with
  | some x=>(Zg.Instances d).set a.toNat (ZCt x b.toNat n)
  | none=>Zg.Instances d,Zg.X7 d,Zg.Xb d,())
theorem ZJS (i:Nat) (x:Zl) (j:Nat) (n:Int):Zhx i (ZCt x j n)=(Zhx i x).set j (ZCC i x j n):=by
 rw[ZFQ,ZFQ];show cat (λ(j':Nat) (m:Int)=>[ZCC i (ZCt x j n) j' m]) 0 (List.set (Zl.X7 x) j n)=_;have:(λ(j':Nat) (m:Int)=>[ZCC i (ZCt x j n) j' m])=λj' m=>[ZCC i x j' m]:=by
  funext j' m;have hl:(Zl.X7 (ZCt x j n)).length=(Zl.X7 x).length:=List.length_set;simp only[ZCC,hl]
 rw[this,ZFw,Nat.zero_add]
theorem ZAD {d:Zg} {k:Nat} {p:Pl} (hp:(Zw d)[k]?=some p) (n:Int):Zw (ZAE d p.1 p.2.1 n)=(Zw d).set k (p.1,p.2.1,n,p.2.2.2.1,()):=by
 rcases ZBg hp with ⟨i,j,x,m,hx,hn,e,rfl⟩ | ⟨j,q,hq,e,rfl⟩
 ·have hj:=(List.getElem?_eq_some_iff.1 hn).1
  have e1:ZAE d (ZCC i x j m).1 (ZCC i x j m).2.1 n=((Zg.Instances d).set i (ZCt x j n),Zg.X7 d,Zg.Xb d,()):=by
   unfold ZAE;rw[if_neg (by simp only[ZCC];omega)];simp only[ZCC,Int.toNat_natCast,hx]
  rw[e1];unfold Zw;show cat Zhx 0 ((Zg.Instances d).set i (ZCt x j n))++cat Zi7 0 (Zg.Xb d)=_;have hlt:k<(cat Zhx 0 (Zg.Instances d)).length:=by
   rw[ZEq Zhx hx,List.length_append,List.length_append,ZAY];grind
  rw[ZKG Zhx hx (j:=j) (z:=ZCC i x j n) (by rw[ZAY];exact hj) (ZJS i x j n),List.set_append,if_pos hlt,e];rfl
 ·have e1:ZAE d (-1) (j:Int) n=(Zg.Instances d,Zg.X7 d,(Zg.Xb d).set j (setPort q n),()):=by
   unfold ZAE;grind
  show Zw (ZAE d (-1) (j:Int) n)=_;rw[e1];unfold Zw;show cat Zhx 0 (Zg.Instances d)++cat Zi7 0 ((Zg.Xb d).set j (setPort q n))=_;rw[List.set_append,if_neg (by grind),ZFT,ZFw,Nat.zero_add,e,show ZAv d+j-(cat Zhx 0 (Zg.Instances d)).length=j by unfold ZAv;omega,ZFT];rfl
def nth (pl:List Pl) (net:Int) (k:Nat):Nat:=(cat (Zl1 net) 0 (pl.take k)).length
theorem ZFg {net:Int} {k:Nat} {p:Pl} (h:¬(p.2.2.1=net/\p.2.2.2.1=false)):Zl1 net k p=[]:=by
 unfold Zl1;grind
theorem ZFh {net:Int} {k:Nat} {p:Pl} (h1:p.2.2.1=net) (h2:p.2.2.2.1=false):Zl1 net k p=[(k:Int)]:=by
 unfold Zl1;grind
theorem ZEM {pl:List Pl} {net:Int} {k:Nat} {p:Pl} (hp:pl[k]?=some p) (h1:p.2.2.1=net) (h2:p.2.2.2.1=false):(cat (Zl1 net) 0 pl)[nth pl net k]?=some (k:Int):=by
 rw[ZEq (Zl1 net) hp,ZFh h1 h2];unfold nth;grind
theorem ZIj {pl:List Pl} {net:Int} {v:Int} (hv:v∈cat (Zl1 net) 0 pl):∃ (k:Nat) (p:Pl),v=(k:Int)/\pl[k]?=some p/\p.2.2.1=net/\p.2.2.2.1=false:=by
 obtain ⟨k,p,hp,hv⟩:=ZdH.1 hv;by_cases h:p.2.2.1=net/\p.2.2.2.1=false
 ·rw[ZFh h.1 h.2] at hv
  grind
 ·rw[ZFg h] at hv
  cases hv
theorem ZJM {pl:List Pl} {net:Int} {k:Nat} {p:Pl} (hp:pl[k]?=some p) (h1:p.2.2.1=net) (h2:p.2.2.2.1=false):nth pl net k<(cat (Zl1 net) 0 pl).length:=(List.getElem?_eq_some_iff.1 (ZEM hp h1 h2)).1
def ZAz (b:Zj) (k:Nat):Int:=match (Zw (Zj.Design b))[k]? with
 | some p=>if p.2.2.2.1=true then 0 else match (Zj.Qg b)[p.2.2.1.toNat]? with
  | some w=>((Zx.Zjo w)[nth (Zw (Zj.Design b)) p.2.2.1 k]?).getD 0
  | none=>0
 | none=>0
def ZB6 (w:Zx) (l:List Int):Zx:=(Zx.Parent w,Zx.Res w,Zx.Cap w,l,())
def ZBt (pl:List Pl) (ws:List Zx) (nd:Nat->Int):List Zx:=cat (λv w=>[ZB6 w ((cat (Zl1 (v:Int)) 0 pl).map (λk=>nd k.toNat))]) 0 ws
theorem ZAT (pl:List Pl) (ws:List Zx) (nd:Nat->Int) (v:Nat):(ZBt pl ws nd)[v]?=(ws[v]?).map (λw=>ZB6 w ((cat (Zl1 (v:Int)) 0 pl).map (λk=>nd k.toNat))):=by
 unfold ZBt;rw[ZCf,Nat.zero_add]
theorem ZD9 (pl:List Pl) (ws:List Zx) (nd:Nat->Int):(ZBt pl ws nd).length=ws.length:=ZBV _ _
theorem ZFI {pl:List Pl} {ws:List Zx} {nd nd':Nat->Int} (h:∀ (k:Nat) (p:Pl),pl[k]?=some p->p.2.2.2.1=false->nd k=nd' k):ZBt pl ws nd=ZBt pl ws nd':=by
 apply List.ext_getElem?;intro v;rw[ZAT,ZAT];congr 1;funext w;congr 1;apply List.map_congr_left;intro x hx;obtain ⟨k,p,e,hp,_,h2⟩:=ZIj hx;grind
def ZEy (pl:List Pl) (ws:List Zx) (nd:Nat->Int) (k:Nat):List Zx:=ZBt (pl.take k) ws nd
theorem ZIq {pl:List Pl} {ws:List Zx} {nd:Nat->Int} {k:Nat} {p:Pl} {w:Zx} (hp:pl[k]?=some p) (h2:p.2.2.2.1=false) (h0:0<=p.2.2.1) (hw:ws[p.2.2.1.toNat]?=some w) :
  (ZEy pl ws nd k)[p.2.2.1.toNat]?=some (ZB6 w ((cat (Zl1 p.2.2.1) 0 (pl.take k)).map (λk=>nd k.toNat)))/\
  (ZEy pl ws nd k).set p.2.2.1.toNat (ZB6 w ((cat (Zl1 p.2.2.1) 0 (pl.take k)).map (λk=>nd k.toNat)++[nd k]))=ZEy pl ws nd (k+1):=by
 have hk:=(List.getElem?_eq_some_iff.1 hp).1;have hlt:=(List.getElem?_eq_some_iff.1 hw).1;unfold ZEy;constructor
 ·rw[ZAT,hw,show ((p.2.2.1.toNat:Nat):Int)=p.2.2.1 by omega]
  rfl
 ·apply List.ext_getElem?
  intro v;rw[List.getElem?_set,ZAT,ZAT];have hs:∀ net:Int,cat (Zl1 net) 0 (pl.take (k+1))=cat (Zl1 net) 0 (pl.take k)++Zl1 net k p:=λnet=>Zsq hp;split
  ·rename_i e
   subst e;rw[ZD9,if_pos hlt,hw,hs,show ((p.2.2.1.toNat:Nat):Int)=p.2.2.1 by omega,ZFh rfl h2,List.map_append]
   simp_all
  ·rename_i e
   congr 1;funext w';congr 1;rw[hs,ZFg (λq=>e (by have:=q.1;omega)),List.append_nil]
theorem ZIp {pl:List Pl} {ws:List Zx} {nd:Nat->Int} {k:Nat} {p:Pl} (hp:pl[k]?=some p) (h2:p.2.2.2.1=true):ZEy pl ws nd (k+1)=ZEy pl ws nd k:=by
 unfold ZEy;apply List.ext_getElem?;intro v;rw[ZAT,ZAT];congr 1;funext w';congr 1;rw[Zsq hp,ZFg (λq=>by grind),List.append_nil]
abbrev Key:Ty:=.pair (.int .i64) (.pair (.int .i64) .unit)
theorem ZHM (x y:Key.den):keq Key x y=true<->x=y:=by
 obtain ⟨a,b,⟨⟩⟩:=x;obtain ⟨c,d,⟨⟩⟩:=y;simp[keq]
theorem ZG8 {k v:Ty} (hk:∀ x y:k.den,keq k x y=true<->x=y) (x z:k.den) (y:v.den):∀ (d:List (k.den×v.den)),ZrG k v (ZsX k v d x y) z=if keq k z x=true then some y else ZrG k v d z
 | []=>by simp only[ZsX,ZrG]
 | e::l=>by
  by_cases h1:keq k x e.1=true
  ·simp only[ZsX,if_pos h1,ZrG]
   grind
  ·simp only[ZsX,if_neg h1,ZrG]
   by_cases h3:keq k z e.1=true
   ·grind
   ·simp only[if_neg h3,ZG8 hk x z y l]
theorem ZG9 {v:Ty} (d:List (Key.den×v.den)) (x:Key.den) (y:v.den):ZrG Key v (ZsX Key v d x y) x=some y:=by
 rw[ZG8 ZHM,if_pos ((ZHM _ _).2 rfl)]
theorem ZF9 {v:Ty} (d:List (Key.den×v.den)) {x z:Key.den} (y:v.den) (h:z≠x):ZrG Key v (ZsX Key v d x y) z=ZrG Key v d z:=by
 rw[ZG8 ZHM,if_neg (λq=>h ((ZHM _ _).1 q))]
abbrev ZFu:=List (Key.den×(Ty.int .i64).den)
def ZIP (p:Pl):Key.den:=(p.1,p.2.1,())
def Maps (nodes:ZFu) (pl:List Pl) (nd:Nat->Int):Prop:=∀ (k:Nat) (p:Pl),pl[k]?=some p->p.2.2.2.1=false->ZrG Key (.int .i64) nodes (ZIP p)=some (nd k)
theorem ZIQ {d:Zg} {k k':Nat} {p p':Pl} (hp:(Zw d)[k]?=some p) (hp':(Zw d)[k']?=some p') (h:ZIP p=ZIP p'):k=k':=by
 unfold ZIP at h;injection h with h1 h2
 injection h2 with h2 _
 exact key_inj hp hp' h1 h2
theorem Maps.put {nodes:ZFu} {d:Zg} {nd:Nat->Int} (h:Maps nodes (Zw d) nd) {k0:Nat} {p0:Pl} (hp0:(Zw d)[k0]?=some p0) (v:Int):Maps (ZsX Key (.int .i64) nodes (ZIP p0) v) (Zw d) (λk=>if k=k0 then v else nd k):=by
 intro k p hp hd;by_cases e:k=k0
 ·subst e
  rw[hp0] at hp;injection hp with hp
  subst hp;simp only[if_true];exact ZG9 _ _ _
 ·simp only[if_neg e]
  rw[ZF9 _ _ (λq=>e (ZIQ hp hp0 q))];exact h k p hp hd
theorem Maps.set {nodes:ZFu} {pl:List Pl} {nd:Nat->Int} (h:Maps nodes pl nd) {k0:Nat} {p0:Pl} (hp0:pl[k0]?=some p0) (n:Int):Maps nodes (pl.set k0 (p0.1,p0.2.1,n,p0.2.2.2.1,())) nd:=by
 intro k p hp hd;by_cases e:k0=k
 ·subst e
  rw[List.getElem?_set_self (List.getElem?_eq_some_iff.1 hp0).1] at hp;injection hp with hp
  subst hp;exact h k0 p0 hp0 hd
 ·rw[List.getElem?_set_ne e] at hp
  exact h k p hp hd
def ZAJ (d:Zg) (x:Zl) (s:List UInt8):Zg:=(Zg.Instances d++[x],Zg.X7 d++[s],Zg.Xb d,())
theorem ZEm (d:Zg) (x:Zl) (s:List UInt8):Zw (ZAJ d x s)=cat Zhx 0 (Zg.Instances d)++Zhx (Zg.Instances d).length x++cat Zi7 0 (Zg.Xb d):=by
 unfold Zw ZAJ;show cat Zhx 0 (Zg.Instances d++[x])++_=_;rw[ZmP,Nat.zero_add];simp only[cat,List.append_nil]
theorem ZFq {d:Zg} {x:Zl} {s:List UInt8} {k:Nat} (hk:k<ZAv d):(Zw (ZAJ d x s))[k]?=(Zw d)[k]?:=by
 rw[ZEm,List.append_assoc,List.getElem?_append_left hk];unfold Zw;rw[List.getElem?_append_left hk]
theorem add_mid {d:Zg} {x:Zl} {s:List UInt8} {j:Nat} (hj:j<(Zl.X7 x).length):(Zw (ZAJ d x s))[ZAv d+j]?=(Zhx (Zg.Instances d).length x)[j]?:=by
 rw[ZEm,List.append_assoc,List.getElem?_append_right (by unfold ZAv;omega),show ZAv d+j-(cat Zhx 0 (Zg.Instances d)).length=j by unfold ZAv;omega,List.getElem?_append_left (by rw[ZAY];exact hj)]
theorem ZE4 {d:Zg} {x:Zl} {s:List UInt8} {k:Nat} (hk:ZAv d<=k):(Zw (ZAJ d x s))[k+(Zl.X7 x).length]?=(Zw d)[k]?:=by
 have h1:(cat Zhx 0 (Zg.Instances d)).length<=k:=hk;rw[ZEm,List.getElem?_append_right (by rw[List.length_append,ZAY];omega),List.length_append,ZAY];unfold Zw;rw[List.getElem?_append_right h1];congr 1;omega
def ZHa (nd:Nat->Int) (m:Nat) (v:Int) (k:Nat):Int:=if k<m then nd k else if k=m then v else if k=m+1 then 0 else nd (k-2)
theorem Maps.add {nodes:ZFu} {d:Zg} {nd:Nat->Int} (h:Maps nodes (Zw d) nd) {x:Zl} {s:List UInt8} (h2:(Zl.X7 x).length=2) (hi:(Zg.Instances d).length<=1048576) (v:Int) :
  Maps (ZsX Key (.int .i64) nodes (((Zg.Instances d).length:Int),0,()) v) (Zw (ZAJ d x s)) (ZHa nd (ZAv d) v):=by
 intro k p hp hd;have other:∀ (k':Nat),(Zw d)[k']?=some p->ZrG Key (.int .i64) (ZsX Key (.int .i64) nodes (((Zg.Instances d).length:Int),0,()) v) (ZIP p)=ZrG Key (.int .i64) nodes (ZIP p):=by
  intro k' hp';refine ZF9 _ _ (λq=>?_);unfold ZIP at q;injection q with q1 _
  rcases ZBg hp' with ⟨i,j,y,n,hy,_,_,rfl⟩ | ⟨j,q',_,_,rfl⟩
  ·have:=(List.getElem?_eq_some_iff.1 hy).1
   simp only[ZCC] at q1;omega
  ·simp only at q1
   omega
 unfold ZHa;by_cases k1:k<ZAv d
 ·rw[if_pos k1]
  rw[ZFq k1] at hp;rw[other k hp];exact h k p hp hd
 ·rw[if_neg k1]
  by_cases k2:k=ZAv d
  ·rw[if_pos k2]
   have h3:=add_mid (d:=d) (x:=x) (s:=s) (j:=0) (by omega);rw[Nat.add_zero,<-k2,hp] at h3;have h4:(Zl.X7 x)[0]?=some (Zl.X7 x)[0]:=List.getElem?_eq_getElem (by omega);rw[ZC0 h4] at h3;injection h3 with h3
   rw[h3];exact ZG9 _ _ _
  ·rw[if_neg k2]
   by_cases k3:k=ZAv d+1
   ·-- it drives
    exfalso;have h3:=add_mid (d:=d) (x:=x) (s:=s) (j:=1) (by omega);rw[<-k3,hp] at h3;have h4:(Zl.X7 x)[1]?=some (Zl.X7 x)[1]:=List.getElem?_eq_getElem (by omega);rw[ZC0 h4] at h3;injection h3 with h3
    rw[h3] at hd;simp only[ZCC,h2,decide_eq_false_iff_not] at hd;exact hd (by rw[Zar (by omega) (by omega)];rfl)
   ·rw[if_neg k3]
    have h3:=ZE4 (d:=d) (x:=x) (s:=s) (k:=k-2) (by omega);rw[h2,show k-2+2=k by omega,hp] at h3;rw[other (k-2) h3.symm];exact h (k-2) p h3.symm hd
def ZAy (d:Zg):Zg:=((Zg.Instances d).take ((Zg.Instances d).length-1),(Zg.X7 d).take ((Zg.X7 d).length-1),Zg.Xb d,())
theorem ZGT {d:Zg} {x:Zl} (hn:0<(Zg.Instances d).length) (hx:(Zg.Instances d)[(Zg.Instances d).length-1]?=some x):Zg.Instances d=Zg.Instances (ZAy d)++[x]:=by
 show Zg.Instances d=(Zg.Instances d).take ((Zg.Instances d).length-1)++[x];rw[<-Yy hx,show (Zg.Instances d).length-1+1=(Zg.Instances d).length by omega,List.take_length]
theorem ZEn {d:Zg} {x:Zl} {s:List UInt8} (hn:0<(Zg.Instances d).length) (hx:(Zg.Instances d)[(Zg.Instances d).length-1]?=some x):Zw d=Zw (ZAJ (ZAy d) x s):=by
 unfold Zw;show cat Zhx 0 (Zg.Instances d)++cat Zi7 0 (Zg.Xb d)=cat Zhx 0 (Zg.Instances (ZAy d)++[x])++cat Zi7 0 (Zg.Xb d);rw[<-ZGT hn hx]
def ZHb (nd:Nat->Int) (m:Nat) (k:Nat):Int:=if k<m then nd k else nd (k+2)
theorem Maps.cut {nodes:ZFu} {d:Zg} {nd:Nat->Int} (h:Maps nodes (Zw d) nd) {x:Zl} (hn:0<(Zg.Instances d).length) (hx:(Zg.Instances d)[(Zg.Instances d).length-1]?=some x) (h2:(Zl.X7 x).length=2) :
  Maps nodes (Zw (ZAy d)) (ZHb nd (ZAv (ZAy d))):=by
 rw[ZEn (s:=[]) hn hx] at h;intro k p hp hd;unfold ZHb;by_cases k1:k<ZAv (ZAy d)
 ·rw[if_pos k1]
  exact h k p (by rw[ZFq k1];exact hp) hd
 ·rw[if_neg k1]
  have h3:=ZE4 (d:=ZAy d) (x:=x) (s:=[]) (k:=k) (by omega);rw[h2,hp] at h3;exact h (k+2) p h3 hd
def ZB5 (pl:List Pl) (f:Nat->Int):Nat->ZFu
 | 0=>[]
 | k+1=>match pl[k]? with
  | some p=>if p.2.2.2.1=true then ZB5 pl f k else ZsX Key (.int .i64) (ZB5 pl f k) (ZIP p) (f k)
  | none=>ZB5 pl f k
theorem ZGh {pl:List Pl} {f:Nat->Int} {k:Nat} {p:Pl} (hp:pl[k]?=some p) (h:p.2.2.2.1=true):ZB5 pl f (k+1)=ZB5 pl f k:=by
 simp only[ZB5,hp,h,if_true]
theorem ZHd {pl:List Pl} {f:Nat->Int} {k:Nat} {p:Pl} (hp:pl[k]?=some p) (h:¬p.2.2.2.1=true):ZB5 pl f (k+1)=ZsX Key (.int .i64) (ZB5 pl f k) (ZIP p) (f k):=by
 simp only[ZB5,hp,h,if_false];rfl
theorem ZFe (d:Zg) (f:Nat->Int):∀ (k:Nat),k<=(Zw d).length->∀ (j:Nat) (p:Pl),j<k->(Zw d)[j]?=some p->p.2.2.2.1=false->ZrG Key (.int .i64) (ZB5 (Zw d) f k) (ZIP p)=some (f j)
 | 0,_,j,p,hj,_,_=>by omega
 | k+1,hk,j,p,hj,hp,hd=>by
  have hq:(Zw d)[k]?=some (Zw d)[k]:=List.getElem?_eq_getElem (by omega);generalize (Zw d)[k]=q at hq;by_cases hqd:q.2.2.2.1=true
  ·rw[ZGh hq hqd]
   refine ZFe d f k (by omega) j p ?_ hp hd;grind
  ·rw[ZHd hq hqd]
   by_cases e:j=k
   ·subst e
    rw[hp] at hq;injection hq with hq
    subst hq;exact ZG9 _ _ _
   ·rw[ZF9 _ _ (λh=>e (ZIQ hp hq h))]
    exact ZFe d f k (by omega) j p (by omega) hp hd
theorem ZEl (d:Zg) (f:Nat->Int):Maps (ZB5 (Zw d) f (Zw d).length) (Zw d) f:=λk p hp hd=>ZFe d f _ (Nat.le_refl _) k p (List.getElem?_eq_some_iff.1 hp).1 hp hd
def ZHc (l:List Int) (k:Nat):Int:=(l[k]?).getD 0
theorem ZHP {l:List Int} {i:Nat} {v:Int} (hi:i<l.length) (k:Nat):ZHc (l.set i v) k=if k=i then v else ZHc l k:=by
 unfold ZHc;grind
theorem ZKk {l:List Int} {m:Nat} (hm:m<=l.length) (v:Int) (k:Nat):ZHc (l.take m++[v,0]++l.drop m) k=ZHa (ZHc l) m v k:=by
 unfold ZHc ZHa;have hl:(l.take m).length=m:=by grind
 by_cases k1:k<m
 ·grind
 ·rw[if_neg k1]
  by_cases k2:k=m
  ·grind
  ·rw[if_neg k2]
   by_cases k3:k=m+1
   ·grind
   ·rw[if_neg k3,List.getElem?_append_right (by grind),List.length_append,hl,List.length_cons,List.length_singleton,List.getElem?_drop]
    congr 2;omega
theorem ZKj {l:List Int} {m:Nat} (hm:m+2<=l.length) (k:Nat):ZHc (l.take m++l.drop (m+2)) k=ZHb (ZHc l) m k:=by
 unfold ZHc ZHb;grind
theorem ZHI {d:Zg} {x:Zl} {s:List UInt8} {a b n:Int} (ha:a<((Zg.Instances d).length:Int)):ZAE (ZAJ d x s) a b n=ZAJ (ZAE d a b n) x s:=by
 unfold ZAE;by_cases h:a<0
 ·rw[if_pos h,if_pos h];rfl
 ·rw[if_neg h,if_neg h]
  have hlt:a.toNat<(Zg.Instances d).length:=by omega
  have hy:=List.getElem?_eq_getElem hlt;generalize (Zg.Instances d)[a.toNat]=y at hy;have e:(Zg.Instances (ZAJ d x s))[a.toNat]?=some y:=by
   show (Zg.Instances d++[x])[a.toNat]?=some y;rw[List.getElem?_append_left hlt];exact hy
  rw[e,hy];have e2:List.set (Zg.Instances (ZAJ d x s)) a.toNat (ZCt y b.toNat n)=(Zg.Instances d).set a.toNat (ZCt y b.toNat n)++[x]:=by
   show List.set (Zg.Instances d++[x]) a.toNat _=_;rw[List.set_append,if_pos hlt]
  show (List.set (Zg.Instances (ZAJ d x s)) a.toNat (ZCt y b.toNat n),_)=_;rw[e2];rfl
theorem ZAA {d:Zg} {a b n:Int}:(Zg.Instances (ZAE d a b n)).length=(Zg.Instances d).length:=by
 unfold ZAE;split
 ·rfl
 ·show (match (Zg.Instances d)[a.toNat]? with | some x=>(Zg.Instances d).set a.toNat (ZCt x b.toNat n) | none=>Zg.Instances d).length=_
  split
  ·rw[List.length_set]
  ·rfl
theorem ZAO {d:Zg} {a b n:Int}:Zg.X7 (ZAE d a b n)=Zg.X7 d:=by
 unfold ZAE;split<;>rfl
theorem ZEJ {d:Zg} {a b n:Int}:(Zg.Xb (ZAE d a b n)).length=(Zg.Xb d).length:=by
 unfold ZAE;split
 ·show (match (Zg.Xb d)[b.toNat]? with | some x=>(Zg.Xb d).set b.toNat (setPort x n) | none=>Zg.Xb d).length=_
  split
  ·rw[List.length_set]
  ·rfl
 ·rfl
theorem ZDb {d:Zg} {a b n:Int} {i:Nat} {y:Zl} (hy:(Zg.Instances (ZAE d a b n))[i]?=some y):∃ x,(Zg.Instances d)[i]?=some x/\Zl.Name y=Zl.Name x/\Zl.Cell y=Zl.Cell x/\(Zl.X7 y).length=(Zl.X7 x).length/\((i:Int)≠a->y=x)/\∀ m∈Zl.X7 y,m∈Zl.X7 x\/m=n:=by
 unfold ZAE at hy;split at hy
 ·exact ⟨y,hy,rfl,rfl,rfl,λ_=>rfl,λm hm=>.inl hm⟩
 ·rename_i h
  have hy:(match (Zg.Instances d)[a.toNat]? with | some x=>(Zg.Instances d).set a.toNat (ZCt x b.toNat n) | none=>Zg.Instances d)[i]?=some y:=hy
  split at hy
  ·rename_i x hx
   rw[List.getElem?_set] at hy;split at hy
   ·rename_i e
    split at hy
    ·injection hy with hy
     subst hy;refine ⟨x,by rw[<-e];exact hx,rfl,rfl,List.length_set,λq=>absurd (by omega) q,λm hm=>?_⟩;rcases List.mem_or_eq_of_mem_set hm with hm | hm
     ·exact .inl hm
     ·exact .inr hm
    ·cases hy
   ·exact ⟨y,hy,rfl,rfl,rfl,λ_=>rfl,λm hm=>.inl hm⟩
  ·exact ⟨y,hy,rfl,rfl,rfl,λ_=>rfl,λm hm=>.inl hm⟩
theorem Few.ZAE {d:Zg} (h:Few d) (a b n:Int):Few (ZAE d a b n):=by
 refine ⟨by rw[ZAA];exact h.insts,by rw[ZEJ];exact h.ports,λy hy=>?_⟩;obtain ⟨i,hi⟩:=List.getElem?_of_mem hy;obtain ⟨x,hx,_,_,hl,_⟩:=ZDb hi;rw[hl];exact h.nets x (List.mem_of_getElem? hx)
theorem Few.add {d:Zg} (h:Few d) (h13:(Zg.Instances d).length<=13) {x:Zl} (hx:(Zl.X7 x).length<=5) (s:List UInt8):Few (ZAJ d x s):=by
 refine ⟨?_,h.ports,λy hy=>?_⟩
 ·show (Zg.Instances d++[x]).length<=14
  rw[List.length_append,List.length_singleton];omega
 ·rcases List.mem_append.1 (show y∈Zg.Instances d++[x] from hy) with hy | hy
  ·exact h.nets y hy
  ·rw[List.mem_singleton] at hy
   subst hy;exact hx
theorem Few.cut {d:Zg} (h:Few d):Few (ZAy d):=by
 refine ⟨?_,h.ports,λy hy=>h.nets y (List.mem_of_mem_take (show y∈(Zg.Instances d).take _ from hy))⟩;show ((Zg.Instances d).take _).length<=14;rw[List.length_take];have:=h.insts;omega
def ZFp (pl:List Pl) (n:Nat):Prop:=∀ p∈pl,p.2.2.2.1=false->0<=p.2.2.1/\p.2.2.1<(n:Int)
theorem ZFp.set {pl:List Pl} {n:Nat} (h:ZFp pl n) {k0:Nat} {p0:Pl} {m:Int} (h0:0<=m) (h1:m<(n:Int)):ZFp (pl.set k0 (p0.1,p0.2.1,m,p0.2.2.2.1,())) n:=by
 intro p hp hd;rcases List.mem_or_eq_of_mem_set hp with hp | hp
 ·exact h p hp hd
 ·subst hp;exact ⟨h0,h1⟩
def ZDa (b:Zj) (i:Int) (c:Int):Zj:=(Zj.Library b,(match (Zg.Instances (Zj.Design b))[i.toNat]? with
 | some x=>(Zg.Instances (Zj.Design b)).set i.toNat (Zl.Name x,c,Zl.X7 x,())
 | none=>Zg.Instances (Zj.Design b),Zg.X7 (Zj.Design b),Zg.Xb (Zj.Design b),()),Zj.Qg b,())
def mvD (b:Zj) (p:Pl) (n:Int):Zg:=ZAE (Zj.Design b) p.1 p.2.1 n
def mvN (b:Zj) (k:Nat) (v:Int) (j:Nat):Int:=if j=k then v else ZAz b j
def moved (b:Zj) (k:Nat) (p:Pl) (n v:Int):Zj:=(Zj.Library b,mvD b p n,ZBt (Zw (mvD b p n)) (Zj.Qg b) (mvN b k v),())
abbrev ZH7:Zx:=([-1],[0],[0],[],())
def ZEk (b:Zj) (e:ZgL) (p:Pl):Zl:=(ZgL.Name e,ZgL.Cell e,[p.2.2.1,((Zg.X7 (Zj.Design b)).length:Int)],())
def ZDS (b:Zj) (e:ZgL) (p:Pl):Zg:=ZAJ (ZAE (Zj.Design b) p.1 p.2.1 ((Zg.X7 (Zj.Design b)).length:Int)) (ZEk b e p) (ZgL.Name e)
def ZFv (b:Zj) (k:Nat):Nat:=if k<ZAv (Zj.Design b) then k else k+2
def ZIr (b:Zj) (k:Nat) (j:Nat):Int:=if j=ZFv b k then 0 else ZHa (ZAz b) (ZAv (Zj.Design b)) (ZAz b k) j
def ZBk (b:Zj) (e:ZgL) (k:Nat) (p:Pl):Zj:=(Zj.Library b,ZDS b e p,ZBt (Zw (ZDS b e p)) (Zj.Qg b++[ZH7]) (ZIr b k),())
def unD (b:Zj) (p:Pl) (m:Int):Zg:=ZAy (ZAE (Zj.Design b) p.1 p.2.1 m)
def unN (b:Zj) (k:Nat):Nat->Int:=ZHb (mvN b k (ZAz b (ZAv (Zj.Design b)-2))) (ZAv (Zj.Design b)-2)
def ZAP (b:Zj) (k:Nat) (p:Pl) (m:Int):Zj:=(Zj.Library b,unD b p m,ZBt (Zw (unD b p m)) ((Zj.Qg b).take ((Zj.Qg b).length-1)) (unN b k),())
def ZIZ (b:Zj) (n:Int) (w:Zx):Zj:=(Zj.Library b,Zj.Design b,(Zj.Qg b).set n.toNat w,())
theorem ZkQ {α:Type} {l:List α} {k:Nat} {x:α} (hx:l[k]?=some x):l.set k x=l:=by
 apply List.ext_getElem?;grind
theorem ZBN (l:List Int) (h:l.length<=1048576):Vg l=some l:=by
 unfold Vg;rw[Zd (by grind)];rfl
theorem ZDy (l:List Int) (h:l.length<=1048576):ZAK l=some l:=by
 unfold ZAK;rw[Zd (by grind)];rfl
theorem ZBR (w:Zx) (hw:sm Za9 w):ZBE w=some w:=by
 obtain ⟨a1,a2,a3,a4⟩:=Zp8 hw;unfold ZBE;rw[ZBN _ (Zv a1),Bq,ZBN _ (Zv a2),Bq,ZBN _ (Zv a3),Bq,ZBN _ (Zv a4),Bq]
theorem ZCX (w:Zx) (hw:sm Za9 w):ZBG w=some w:=by
 obtain ⟨a1,a2,a3,a4⟩:=Zp8 hw;unfold ZBG;rw[ZDy _ (Zv a1),Bq,ZDy _ (Zv a2),Bq,ZDy _ (Zv a3),Bq,ZDy _ (Zv a4),Bq]
theorem ZFm (d:Zg) (hd:sm YU d):ZBA d=some d:=by
 obtain ⟨s1,s2,s3⟩:=Zjh hd;have l1:=Zv s1;have l2:=Zv s2;have l3:=Zv s3;unfold ZBA ZAN ZBF ZBd;rw[Zd (by grind),Bq,Zd (by grind),Bq,Zd (by grind),Bq];simp only[List.nil_append];refine JF (l:=Zg.Instances d) (λk=>((k:Int),(Zg.Instances d,(k:Int)),())) (λk x hx hk=>?_) ?_
 ·have hx2:=ZBN (Zl.X7 x) (Zv (Zov (ZeM s1 hx)).2)
  simp only[ZA9,show (k:Int)<((Zg.Instances d).length:Int) by omega,if_true,Zu,hx,Bq,Int.le_refl,hx2,Zd trivial,Jb (show k<=1048576 by omega),Int.toNat_natCast];rw[show List.set (Zg.Instances d) k (Zl.Name x,Zl.Cell x,Zl.X7 x,())=Zg.Instances d from ZkQ hx];rfl
 ·simp only[ZA9,Int.lt_irrefl,if_false,Zd trivial]
theorem ZEs (l:List Zy) (hl:sm (.sl XF) l):ZCq l=some l:=by
 have h1:=Zv hl;unfold ZCq;have:=JF (l:=l) (λk=>(l.take k,(k:Int),())) (step:=λv=>ZBM l v.1 v.2.1) (good:=l) (λk x hx hk=>by
  have hs:sm XF x:=ZeM hl hx;have e1:=ZBN (Zy.ZgK x) (Zv (t:=.int .i64) hs.1);have e2:=ZBN (Zy.Loads x) (Zv (t:=.int .i64) hs.2.1);have e3:=ZBN (Zy.Values x) (Zv (t:=.int .i64) hs.2.2.1);have hg:((l.take k).length+[(Zy.ZgK x,Zy.Loads x,Zy.Values x,())].length)*72<=140737488355328:=by grind
  simp only[ZBM,show (k:Int)<(l.length:Int) by omega,if_true,Zu,hx,Bq,e1,e2,e3,Zd hg,Jb (show k<=1048576 by omega)];rw[Yy hx]) (by
  simp only[ZBM,Int.lt_irrefl,if_false,List.take_length])
 simpa using this
theorem ZFn (a:Zt) (ha:sm YR a):ZBB a=some a:=by
 have hc:=Ztf ha;have h1:=Zv hc;unfold ZBB;have:=JF (l:=Zt.Cells a) (λk=>((k:Int),(Zt.Cells a).take k,())) (step:=λv=>ZAU a v.1 v.2.1) (good:=a) (λk x hx hk=>by
  have hs:sm V6 x:=ZeM hc hx;have p1:sm (.sl ZfZ) (Zk.Yz x):=hs.2.2.1;have p2:sm (.sl Zgv) (Zk.JR x):=hs.2.2.2.1;have p3:sm (.sl (.int .i64)) (Zk.Truth x):=hs.2.2.2.2.1;have l1:=Zv p1;have l2:=Zv p2;have l3:=Zv p3;simp only[ZAU,show (k:Int)<((Zt.Cells a).length:Int) by omega,if_true,Zu,hx,Bq];unfold ZBi ZBh;rw[Zd (by grind),Bq,ZBN _ l3,Bq,Zd (by grind),Bq];simp only[List.nil_append];have hg:∀ y:Zk,(((Zt.Cells a).take k).length+[y].length)*112<=140737488355328:=λy=>by grind
  refine JF (l:=Zk.JR x) (λj=>((j:Int),(Zk.JR x,(j:Int)),())) (λj y hy hj=>?_) ?_
  ·obtain ⟨q1,q2⟩:=ZuX (ZeM p2 hy)
   simp only[ZBc,show (j:Int)<((Zk.JR x).length:Int) by omega,if_true,Zu,hy,Bq,Int.le_refl,ZEs _ q1,ZEs _ q2,Zd trivial,Jb (show j<=1048576 by omega),Int.toNat_natCast];rw[show List.set (Zk.JR x) j (ZC.Kind y,ZC.From y,ZC.To y,ZC.Za7 y,ZC.Delay y,ZC.Za2 y,())=Zk.JR x from ZkQ hy];rfl
  ·simp only[ZBc,Int.lt_irrefl,if_false,Zd trivial,Zd (hg _),Jb (show k<=1048576 by omega)]
   rw[Yy hx]) (by
  simp only[ZAU,Int.lt_irrefl,if_false,List.take_length])
 simpa using this
theorem ZAR (b:Zj) (hb:sm Xz b):ZCp b=some b:=by
 obtain ⟨b1,b2,b3⟩:=ZnM hb;have h1:=Zv b3;unfold ZCp;rw[ZFn _ b1,Bq,ZFm _ b2,Bq];have:=JF (l:=Zj.Qg b) (λk=>((k:Int),(Zj.Qg b).take k,())) (step:=λv=>ZBJ b (Zj.Library b) (Zj.Design b) v.1 v.2.1) (good:=b) (λk x hx hk=>by
  have hg:(((Zj.Qg b).take k).length+[x].length)*96<=140737488355328:=by grind
  simp only[ZBJ,show (k:Int)<((Zj.Qg b).length:Int) by omega,if_true,Zu,hx,Bq,ZBR x (ZeM b3 hx),Zd hg,Jb (show k<=1048576 by omega)];rw[Yy hx]) (by
  simp only[ZBJ,Int.lt_irrefl,if_false,List.take_length])
 simpa using this
theorem ZKJ {pl:List Pl} {k:Nat} {p:Pl} (hp:pl[k]?=some p) (h2:p.2.2.2.1=false):nth pl p.2.2.1 (k+1)=nth pl p.2.2.1 k+1:=by
 unfold nth;rw[Zsq hp,ZFh rfl h2,List.length_append,List.length_singleton]
theorem ZKB {pl:List Pl} {net:Int} {k:Nat} {p:Pl} (hp:pl[k]?=some p) (h:¬(p.2.2.1=net/\p.2.2.2.1=false)):nth pl net (k+1)=nth pl net k:=by
 unfold nth;rw[Zsq hp,ZFg h,List.append_nil]
def seen (pl:List Pl) (n k:Nat):List Int:=(List.range n).map (λ(v:Nat)=>((nth pl (v:Int) k:Nat):Int))
theorem ZGO {pl:List Pl} {n k v:Nat} (hv:v<n):(seen pl n k)[v]?=some ((nth pl (v:Int) k:Nat):Int):=by
 unfold seen;grind
theorem ZJR (pl:List Pl) (n:Nat):List.replicate n (0:Int)=seen pl n 0:=by
 apply List.ext_getElem?;intro v;by_cases hv:v<n
 ·rw[ZGO hv,List.getElem?_replicate,if_pos hv]
  unfold nth;simp[cat]
 ·rw[List.getElem?_eq_none (by simp;omega),List.getElem?_eq_none (by unfold seen;simp;omega)]
theorem ZKp {pl:List Pl} {n k:Nat} {p:Pl} (hp:pl[k]?=some p) (h2:p.2.2.2.1=false) (h0:0<=p.2.2.1) (h1:p.2.2.1<(n:Int)):(seen pl n k).set p.2.2.1.toNat (((nth pl p.2.2.1 k+1:Nat):Int))=seen pl n (k+1):=by
 apply List.ext_getElem?;intro v;by_cases hv:v<n
 ·rw[List.getElem?_set,ZGO hv,ZGO hv]
  split
  ·rename_i e
   rw[if_pos (by unfold seen;simp;omega)];subst e;rw[show ((p.2.2.1.toNat:Nat):Int)=p.2.2.1 by omega,ZKJ hp h2]
  ·rename_i e
   rw[ZKB hp (λq=>e (by have:=q.1;omega))]
 ·rw[List.getElem?_eq_none (by unfold seen;simp;omega),List.getElem?_eq_none (by unfold seen;simp;omega)]
theorem ZKL {pl:List Pl} {n k:Nat} {p:Pl} (hp:pl[k]?=some p) (h2:p.2.2.2.1=true):seen pl n (k+1)=seen pl n k:=by
 unfold seen;apply List.map_congr_left;intro v _;rw[ZKB hp (λq=>by grind)]
theorem ZHQ {b:Zj} (h:ZdN b) {k:Nat} {p:Pl} (hp:(Zw (Zj.Design b))[k]?=some p) (h2:p.2.2.2.1=false) :
  ∃ w,atI (Zj.Qg b) p.2.2.1=some w/\(Zj.Qg b)[p.2.2.1.toNat]?=some w/\atI (Zx.Zjo w) ((nth (Zw (Zj.Design b)) p.2.2.1 k:Nat):Int)=some (ZAz b k)/\Zf2 w ((Zhl (Zj.Design b) p.2.2.1).length:Int):=by
 have hn:=Zol h.ok.1 (List.mem_of_getElem? hp);obtain ⟨w,hw1,hw2,hw3⟩:=ZDO h hn;have hlt:=ZJM hp rfl h2;have hs:=hw3.2.2.2.1;have hlt2:nth (Zw (Zj.Design b)) p.2.2.1 k<(Zx.Zjo w).length:=by
  have:(Zhl (Zj.Design b) p.2.2.1).length=(cat (Zl1 p.2.2.1) 0 (Zw (Zj.Design b))).length:=rfl;omega
 refine ⟨w,hw2,hw1,?_,hw3⟩;rw[Zu];have e:ZAz b k=((Zx.Zjo w)[nth (Zw (Zj.Design b)) p.2.2.1 k]?).getD 0:=by
  unfold ZAz;grind
 grind
theorem ZB3 {b:Zj} (h:ZdN b):ZA8 b=some (ZB5 (Zw (Zj.Design b)) (ZAz b) (Zw (Zj.Design b)).length):=by
 have hf:=h.ok.1.few;have hpl:=V9 hf;have h30:=h.ok.1.2.1.2.1;have hwn:=h.ok.2.1;have hwl:(Zj.Qg b).length<=1048576:=Zv (ZnM h.sm).2.2;unfold ZA8;rw[Zd (by omega),Zd (by omega),Zd (by omega),Zd (by omega),Q5 _ hf,Bq,Int.toNat_natCast,ZJR (Zw (Zj.Design b))];refine JF (l:=Zw (Zj.Design b)) (λk=>((k:Int),ZB5 (Zw (Zj.Design b)) (ZAz b) k,seen (Zw (Zj.Design b)) (Zj.Qg b).length k,())) (λk p hp hk=>?_) ?_
 ·simp only[ZB2,show (k:Int)<((Zw (Zj.Design b)).length:Int) by omega,if_true,Zu,hp,Bq,Jb (show k<=1048576 by omega)]
  have e1:YA.drives p=p.2.2.2.1:=rfl;have e2:YA.net p=p.2.2.1:=rfl;by_cases h2:p.2.2.2.1=true
  ·rw[e1,if_pos h2,ZGh hp h2,ZKL hp h2]
  ·have h2':p.2.2.2.1=false:=by simpa using h2
   obtain ⟨w,hw1,hw2,hw3,hw4⟩:=ZHQ h hp h2';have hn:=Zol h.ok.1 (List.mem_of_getElem? hp);have hv:p.2.2.1<((Zj.Qg b).length:Int):=by have:=hn.2;omega
   have hs:atI (seen (Zw (Zj.Design b)) (Zj.Qg b).length k) p.2.2.1=some ((nth (Zw (Zj.Design b)) p.2.2.1 k:Nat):Int):=by
    refine Zbc hn.1 ?_;rw[ZGO (by have:=hn.1;omega),show ((p.2.2.1.toNat:Nat):Int)=p.2.2.1 by have:=hn.1;omega]
   have hlt:=ZJM hp rfl h2';have hlc:=Zl2 p.2.2.1 (Zw (Zj.Design b)) 0;rw[e1,if_neg h2,e2,hw1,Bq,hs,Bq,hw3,Bq,Jb (show nth (Zw (Zj.Design b)) p.2.2.1 k<=1048576 by omega),ZKp hp h2' hn.1 hv,ZHd hp h2];rfl
 ·simp only[ZB2,Int.lt_irrefl,if_false]
theorem ZIU {pl:List Pl} {net:Int}:∀ (n:Nat),n<=pl.length->∀ (i:Nat) (x:Int),(cat (Zl1 net) 0 (pl.take n))[i]?=some x->
  ∃ (k:Nat) (p:Pl),k<n/\pl[k]?=some p/\x=(k:Int)/\p.2.2.1=net/\p.2.2.2.1=false/\nth pl net k=i
 | 0,_,i,x,h=>by simp[cat] at h
 | n+1,hn,i,x,h=>by
  have hp:pl[n]?=some pl[n]:=List.getElem?_eq_getElem (by omega);generalize pl[n]=p at hp;rw[Zsq hp] at h;by_cases hi:i<(cat (Zl1 net) 0 (pl.take n)).length
  ·rw[List.getElem?_append_left hi] at h
   obtain ⟨k,q,a,r⟩:=ZIU n (by omega) i x h;exact ⟨k,q,by omega,r⟩
  ·rw[List.getElem?_append_right (by omega)] at h
   by_cases hs:p.2.2.1=net/\p.2.2.2.1=false
   ·rw[ZFh hs.1 hs.2] at h
    have h0:=(List.getElem?_eq_some_iff.1 h).1;rw[List.length_singleton] at h0;rw[show i-(cat (Zl1 net) 0 (pl.take n)).length=0 by omega] at h;injection h with h
    exact ⟨n,p,by omega,hp,h.symm,hs.1,hs.2,by unfold nth;omega⟩
   ·rw[ZFg hs] at h
    cases h
theorem ZFU {pl:List Pl} {net:Int} {i:Nat} {x:Int} (h:(cat (Zl1 net) 0 pl)[i]?=some x) :
  ∃ (k:Nat) (p:Pl),pl[k]?=some p/\x=(k:Int)/\p.2.2.1=net/\p.2.2.2.1=false/\nth pl net k=i:=by
 obtain ⟨k,p,_,r⟩:=ZIU (pl:=pl) (net:=net) pl.length (Nat.le_refl _) i x (by rw[List.take_length];exact h);exact ⟨k,p,r⟩
def filled (b:Zj) (P:Nat->Pl->Bool):List Int:=cat (λk p=>[if P k p=true then ZAz b k else 0]) 0 (Zw (Zj.Design b))
theorem ZCY (b:Zj) (P:Nat->Pl->Bool) (k:Nat):(filled b P)[k]?=((Zw (Zj.Design b))[k]?).map (λp=>if P k p=true then ZAz b k else 0):=by
 unfold filled;rw[ZCf,Nat.zero_add]
theorem ZF4 (b:Zj) (P:Nat->Pl->Bool):(filled b P).length=(Zw (Zj.Design b)).length:=ZBV _ _
theorem ZGf {b:Zj} {P Q:Nat->Pl->Bool} (h:∀ (k:Nat) (p:Pl),(Zw (Zj.Design b))[k]?=some p->P k p=Q k p):filled b P=filled b Q:=by
 apply List.ext_getElem?;intro k;rw[ZCY,ZCY];cases hp:(Zw (Zj.Design b))[k]? with
 | none=>rfl
 | some p=>simp only[Option.map_some,h k p hp]
def ZKn (v:Nat) (k:Nat) (p:Pl):Bool:=decide (p.2.2.1<(v:Int))&&!p.2.2.2.1
def pIn (b:Zj) (v i:Nat) (k:Nat) (p:Pl):Bool:=!p.2.2.2.1&&(decide (p.2.2.1<(v:Int))||(decide (p.2.2.1=(v:Int))&&decide (nth (Zw (Zj.Design b)) (v:Int) k<i)))
def ZCb (b:Zj):List Int:=filled b (λ_ _=>true)
theorem ZEu {b:Zj} {k:Nat} (hk:k<(Zw (Zj.Design b)).length):(ZCb b)[k]?=some (ZAz b k):=by
 unfold ZCb;rw[ZCY,List.getElem?_eq_getElem hk];rfl
theorem ZDd (b:Zj):(ZCb b).length=(Zw (Zj.Design b)).length:=ZF4 _ _
theorem ZCv {b:Zj} (h:ZdN b):ZCk b=some (ZCb b):=by
 have hf:=h.ok.1.few;have hpl:=V9 hf;have h30:=h.ok.1.2.1.2.1;have hwn:=h.ok.2.1;have hwl:(Zj.Qg b).length<=1048576:=Zv (ZnM h.sm).2.2;have first:List.replicate (Zw (Zj.Design b)).length (0:Int)=filled b (ZKn 0):=by
  apply List.ext_getElem?;intro k;rw[ZCY,List.getElem?_replicate];split
  ·rename_i hk
   have hp:=List.getElem?_eq_getElem hk;rw[hp];have hn:=(Zol h.ok.1 (List.mem_of_getElem? hp)).1;rw[Option.map_some,if_neg];unfold ZKn;simp only[Bool.and_eq_true,decide_eq_true_eq,not_and];intro q;omega
  ·rw[List.getElem?_eq_none (by omega)];rfl
 have last:filled b (ZKn (Zj.Qg b).length)=ZCb b:=by
  apply List.ext_getElem?;intro k;unfold ZCb;rw[ZCY,ZCY];cases hp:(Zw (Zj.Design b))[k]? with
  | none=>rfl
  | some p =>
   have hn:=(Zol h.ok.1 (List.mem_of_getElem? hp)).2;simp only[Option.map_some,if_true];by_cases h2:p.2.2.2.1=true
   ·have:ZAz b k=0:=by unfold ZAz;simp only[hp,h2,if_true]
    simp only[this,ite_self]
   ·rw[if_pos]
    unfold ZKn;simp only[Bool.and_eq_true,decide_eq_true_eq,Bool.not_eq_true'];exact ⟨by omega,by simpa using h2⟩
 unfold ZCk;rw[QA _ hf,Bq,Zd (by omega),Zd (by omega),Zd (by omega),Zd (by omega),Int.toNat_natCast,first];refine JF (l:=Zj.Qg b) (λv=>((v:Int),filled b (ZKn v),())) (λv w hw hv=>?_) ?_
 ·simp only[ZDq,show (v:Int)<((Zj.Qg b).length:Int) by omega,if_true,ZkH _ _ hf,Bq]
  have e0:filled b (ZKn v)=filled b (pIn b v 0):=ZGf λk p _=>by unfold ZKn pIn;simp[Bool.and_comm]
  have e1:filled b (pIn b v (Zhl (Zj.Design b) (v:Int)).length)=filled b (ZKn (v+1)):=ZGf λk p hp=>by
   unfold ZKn pIn;by_cases h2:p.2.2.2.1=true
   ·simp[h2]
   ·have h2':p.2.2.2.1=false:=by simpa using h2
    rw[h2',Bool.not_false,Bool.true_and,Bool.and_true];by_cases hq:p.2.2.1=(v:Int)
    ·have hlt:nth (Zw (Zj.Design b)) (v:Int) k<(Zhl (Zj.Design b) (v:Int)).length:=ZJM hp hq h2'
     rw[decide_eq_true hlt,decide_eq_true hq,decide_eq_true (show p.2.2.1<((v+1:Nat):Int) by omega)];simp
    ·rw[decide_eq_false hq,Bool.false_and,Bool.or_false]
     exact decide_eq_decide.2 (by omega)
  rw[e0];refine JF (l:=Zhl (Zj.Design b) (v:Int)) (λi=>((i:Int),filled b (pIn b v i),())) (λi x hx hi=>?_) ?_
  ·obtain ⟨k,p,hp,ex,hn,h2,hnth⟩:=ZFU (pl:=Zw (Zj.Design b)) hx
   obtain ⟨w',hw1,hw2,hw3,hw4⟩:=ZHQ h hp h2;have hk:=(List.getElem?_eq_some_iff.1 hp).1;have hlc:=Zl2 (v:Int) (Zw (Zj.Design b)) 0;have hlc2:(Zhl (Zj.Design b) (v:Int)).length<=(Zw (Zj.Design b)).length:=hlc;rw[hn,hnth] at hw3;rw[hn] at hw1;have hfk:(filled b (pIn b v i))[k]?=some ((filled b (pIn b v i))[k]'(by rw[ZF4];exact hk)):=List.getElem?_eq_getElem _;simp only[ZDp,show (i:Int)<((Zhl (Zj.Design b) (v:Int)).length:Int) by omega,if_true,Zu,hx,Bq,<-Zu (Zj.Qg b),hw1,<-Zu (Zx.Zjo w'),hw3,Jb (show i<=1048576 by omega)];subst ex;rw[Zu,hfk,Bq,Int.toNat_natCast];have:List.set (filled b (pIn b v i)) k (ZAz b k)=filled b (pIn b v (i+1)):=by
    apply List.ext_getElem?;intro j;rw[List.getElem?_set,ZF4];split
    ·rename_i e
     subst e;rw[ZCY,hp,Option.map_some,if_pos];unfold pIn;rw[h2,hnth];simp[hn]
    ·rename_i e
     rw[ZCY,ZCY];cases hq:(Zw (Zj.Design b))[j]? with
     | none=>rfl
     | some q =>
      have:pIn b v i j q=pIn b v (i+1) j q:=by
       unfold pIn;by_cases h3:q.2.2.2.1=true
       ·simp[h3]
       ·have h3':q.2.2.2.1=false:=by simpa using h3
        by_cases hqn:q.2.2.1=(v:Int)
        ·have hne:nth (Zw (Zj.Design b)) (v:Int) j≠i:=by
          intro hh;have h4:=ZEM hq hqn h3';rw[hh] at h4;have h5:(cat (Zl1 (v:Int)) 0 (Zw (Zj.Design b)))[i]?=some (k:Int):=hx;rw[h5] at h4;injection h4 with h4
          omega
         rw[show decide (nth (Zw (Zj.Design b)) (v:Int) j<i)=decide (nth (Zw (Zj.Design b)) (v:Int) j<i+1) from decide_eq_decide.2 (by omega)]
        ·rw[decide_eq_false hqn,Bool.false_and,Bool.false_and]
      rw[Option.map_some,Option.map_some,this]
   rw[this]
  ·simp only[ZDp,Int.lt_irrefl,if_false,Jb (show v<=1048576 by omega),e1]
 ·simp only[ZDq,Int.lt_irrefl,if_false,last]
def wip (ws:List Zx) (k:Nat):List Zx:=cat (λj w=>[if j<k then ZB6 w [] else w]) 0 ws
theorem ZGe (ws:List Zx) (k v:Nat):(wip ws k)[v]?=(ws[v]?).map (λw=>if v<k then ZB6 w [] else w):=by
 unfold wip;rw[ZCf,Nat.zero_add]
theorem ZKU (ws:List Zx) (k:Nat):(wip ws k).length=ws.length:=ZBV _ _
theorem ZKv (ws:List Zx):wip ws 0=ws:=by
 apply List.ext_getElem?;intro v;rw[ZGe];simp
theorem ZKT (pl:List Pl) (ws:List Zx) (nd:Nat->Int):wip ws ws.length=ZEy pl ws nd 0:=by
 apply List.ext_getElem?;intro v;unfold ZEy;rw[ZGe,ZAT];cases hv:ws[v]? with
 | none=>rfl
 | some w =>
  have:=(List.getElem?_eq_some_iff.1 hv).1;simp only[Option.map_some,if_pos this,List.take_zero,cat,List.map_nil]
theorem ZKu {ws:List Zx} {k:Nat} {w:Zx} (hw:ws[k]?=some w):(wip ws k)[k]?=some w/\(wip ws k).set k (ZB6 w [])=wip ws (k+1):=by
 constructor
 ·rw[ZGe,hw];simp
 ·apply List.ext_getElem?
  intro v;rw[List.getElem?_set,ZKU];split
  ·rename_i e
   subst e;rw[if_pos (List.getElem?_eq_some_iff.1 hw).1,ZGe,hw,Option.map_some,if_pos (by omega)]
  ·rw[ZGe,ZGe]
   congr 1;funext w';by_cases h:v<k
   ·rw[if_pos h,if_pos (by omega)]
   ·rw[if_neg h,if_neg (by omega)]
theorem ZEt {b:Zj} {nodes:ZFu} {nd:Nat->Int} (hf:Few (Zj.Design b)) (hm:Maps nodes (Zw (Zj.Design b)) nd) (hn:ZFp (Zw (Zj.Design b)) (Zj.Qg b).length) (hw:(Zj.Qg b).length<=1048576) :
  ZA7 b nodes=some (Zj.Library b,Zj.Design b,ZBt (Zw (Zj.Design b)) (Zj.Qg b) nd,()):=by
 have hpl:=V9 hf;unfold ZA7;have:=JF (l:=Zj.Qg b) (λk=>((k:Int),wip (Zj.Qg b) k,())) (step:=λv=>ZBq b nodes v.1 v.2.1) (good:=(Zj.Library b,Zj.Design b,ZBt (Zw (Zj.Design b)) (Zj.Qg b) nd,())) (λk w hk hlt=>by
  obtain ⟨a1,a2⟩:=ZKu hk;simp only[ZBq,show (k:Int)<((Zj.Qg b).length:Int) by omega,if_true,Zu,a1,Bq,Jb (show k<=1048576 by omega),Int.toNat_natCast];rw[<-a2];rfl) (by
  simp only[ZBq,Int.lt_irrefl,if_false,Q5 _ hf,Bq,ZKT (Zw (Zj.Design b)) (Zj.Qg b) nd];refine JF (l:=Zw (Zj.Design b)) (λk=>((k:Int),ZEy (Zw (Zj.Design b)) (Zj.Qg b) nd k,())) (λk p hp hk=>?_) ?_
  ·simp only[ZB1,show (k:Int)<((Zw (Zj.Design b)).length:Int) by omega,if_true,Zu,hp,Bq,Jb (show k<=1048576 by omega)]
   have e1:YA.drives p=p.2.2.2.1:=rfl;have e2:YA.net p=p.2.2.1:=rfl;have e3:ZrG Zui (Ty.int IntKind.i64) nodes (YA.instance p,YA.pin p,())=ZrG Key (.int .i64) nodes (ZIP p):=rfl;by_cases h2:p.2.2.2.1=true
   ·rw[e1,if_pos h2,ZIp hp h2]
   ·have h2':p.2.2.2.1=false:=by simpa using h2
    obtain ⟨h0,h1⟩:=hn p (List.mem_of_getElem? hp) h2';have hwk:(Zj.Qg b)[p.2.2.1.toNat]?=some ((Zj.Qg b)[p.2.2.1.toNat]'(by omega)):=List.getElem?_eq_getElem (by omega);obtain ⟨w1,w2⟩:=ZIq (nd:=nd) hp h2' h0 hwk;have hl:=Zl2 p.2.2.1 ((Zw (Zj.Design b)).take k) 0;rw[e1,if_neg h2,e2,Zbc h0 w1,Bq,e3,hm k p hp h2',Zd (by
     show ((List.map _ _).length+1)*8<=_;rw[List.length_map];rw[List.length_take] at hl;omega),<-w2]
    rfl
  ·simp only[ZB1,Int.lt_irrefl,if_false]
   unfold ZEy;rw[List.take_length])
 rw[ZKv] at this;exact this
theorem ZDT {b:Zj} {k:Nat} {p:Pl} (hp:(Zw (Zj.Design b))[k]?=some p) (n:Int):ZBz b (p.1,p.2.1,()) n=some (Zj.Library b,ZAE (Zj.Design b) p.1 p.2.1 n,Zj.Qg b,()):=by
 unfold ZBz ZAE;rcases ZBg hp with ⟨i,j,x,m,hx,hn,e,rfl⟩ | ⟨j,q,hq,e,rfl⟩
 ·have c:¬((i:Int)<0):=by omega
  simp only[ZCC,Znc.instance,Znc.pin,if_neg c,Zu,hx,Bq,Int.toNat_natCast];have hn2:x.2.2.1[j]?=some m:=hn;rw[hn2];rfl
 ·have c:((-1:Int)<0):=by omega
  simp only[Znc.instance,Znc.pin,if_pos c,Zu,hq,Bq,Int.toNat_natCast];rfl
theorem ZFS {d:Zg} (hn:0<(Zg.Instances d).length) {p:Pl} (h:p∈Zw (ZAy d)):p∈Zw d:=by
 have hx:(Zg.Instances d)[(Zg.Instances d).length-1]?=some (Zg.Instances d)[(Zg.Instances d).length-1]:=List.getElem?_eq_getElem (by omega);rw[ZEn (s:=[]) hn hx,ZEm];unfold Zw at h;rcases List.mem_append.1 h with h | h
 ·exact List.mem_append_left _ (List.mem_append_left _ h)
 ·exact List.mem_append_right _ h
theorem ZEI.sink {b:Zj} (h:ZdN b) (hL:ZEI b):∃ (k:Nat) (p:Pl),Zhl (Zj.Design b) (((Zg.X7 (Zj.Design b)).length:Int)-1)=[(k:Int)]/\(Zw (Zj.Design b))[k]?=some p/\p.2.2.1=((Zg.X7 (Zj.Design b)).length:Int)-1/\p.2.2.2.1=false/\p.1≠((Zg.Instances (Zj.Design b)).length:Int)-1:=by
 obtain ⟨x,c,w,m,hn,hx,hc,hk1,hk2,hl2,hm,hl,hne,hnm,hw,hs1,hs2,hp1,hc0⟩:=hL
 match hs:Zhl (Zj.Design b) (((Zg.X7 (Zj.Design b)).length:Int)-1),hs2 with
 | [v],_ =>
  obtain ⟨k,p,hp,e,h1,h2,_⟩:=ZFU (pl:=Zw (Zj.Design b)) (net:=((Zg.X7 (Zj.Design b)).length:Int)-1) (i:=0) (x:=v) (by
   show (Zhl (Zj.Design b) (((Zg.X7 (Zj.Design b)).length:Int)-1))[0]?=some v;rw[hs];rfl)
  subst e;refine ⟨k,p,rfl,hp,h1,h2,λq=>?_⟩;rcases ZBg hp with ⟨i,j,y,n,hy,hnj,_,rfl⟩ | ⟨j,y,_,_,rfl⟩
  ·simp only[ZCC] at q h1 h2
   have ei:i=(Zg.Instances (Zj.Design b)).length-1:=by omega
   rw[ei,hx] at hy;injection hy with hy
   subst hy;have hj:=(List.getElem?_eq_some_iff.1 hnj).1;rw[hl2] at h2 hj;have:j=0\/j=1:=by omega
   rcases this with rfl | rfl
   ·rw[show atI (Zl.X7 x) 0=(Zl.X7 x)[0]? from rfl,hnj] at hm
    injection hm with hm
    exact hne (hm.symm.trans h1)
   ·exact absurd h2 (by simp only[decide_eq_false_iff_not,Classical.not_not];rw[Zar (by omega) (by omega)];rfl)
  ·simp only at q
   omega
theorem ZJJ {b:Zj} (h:ZdN b) {k:Nat} {p:Pl} {m:Int} (hn:0<(Zg.Instances (Zj.Design b)).length) (hs:Zhl (Zj.Design b) (((Zg.X7 (Zj.Design b)).length:Int)-1)=[(k:Int)]) (hp:(Zw (Zj.Design b))[k]?=some p) (h0:0<=m) (h1:m<((Zg.X7 (Zj.Design b)).length:Int)-1) :
  ZFp (Zw (unD b p m)) ((Zj.Qg b).length-1):=by
 have hwn:=h.ok.2.1;have hD:ZFp (Zw (ZAE (Zj.Design b) p.1 p.2.1 m)) ((Zj.Qg b).length-1):=by
  rw[ZAD hp];intro q hq hd;obtain ⟨j,hj⟩:=List.getElem?_of_mem hq;rw[List.getElem?_set] at hj;split at hj
  ·split at hj
   ·injection hj with hj
    subst hj;exact ⟨h0,by show m<_;omega⟩
   ·cases hj
  ·rename_i e
   have hnet:=Zol h.ok.1 (List.mem_of_getElem? hj);refine ⟨hnet.1,?_⟩;by_cases hq2:q.2.2.1=((Zg.X7 (Zj.Design b)).length:Int)-1
   ·have h3:=ZEM hj hq2 hd
    have h4:(Zhl (Zj.Design b) (((Zg.X7 (Zj.Design b)).length:Int)-1))[nth (Zw (Zj.Design b)) (((Zg.X7 (Zj.Design b)).length:Int)-1) j]?=some (j:Int):=h3;rw[hs] at h4;have h5:=List.mem_of_getElem? h4;rw[List.mem_singleton] at h5;exact absurd (by omega) e
   ·have:=hnet.2
    omega
 intro q hq hd;exact hD q (ZFS (by rw[ZAA];exact hn) hq) hd
theorem ZDZ {d:Zg} {x:Zl} (hn:0<(Zg.Instances d).length) (hx:(Zg.Instances d)[(Zg.Instances d).length-1]?=some x) (h2:(Zl.X7 x).length=2):ZAv (ZAy d)+2=ZAv d:=by
 have h1:=ZGT hn hx;unfold ZAv;rw[h1,ZmP,List.length_append];simp only[cat,List.append_nil,ZAY,h2]
theorem ZHw {d:Zg} {x:Zl} (hn:0<(Zg.Instances d).length) (hx:(Zg.Instances d)[(Zg.Instances d).length-1]?=some x) (h2:(Zl.X7 x).length=2):ZEz d ((Zg.Instances d).length-1)=ZAv d-2:=by
 have h1:=ZDZ hn hx h2;have:ZEz d ((Zg.Instances d).length-1)=ZAv (ZAy d):=rfl;omega
theorem ZCs {b:Zj} (h:ZdN b) (hL:ZEI b):∃ (k:Nat) (p:Pl) (m v:Int),Zhl (Zj.Design b) (((Zg.X7 (Zj.Design b)).length:Int)-1)=[(k:Int)]/\(Zw (Zj.Design b))[k]?=some p/\p.1≠((Zg.Instances (Zj.Design b)).length:Int)-1/\
  (∀ y,(Zg.Instances (Zj.Design b))[(Zg.Instances (Zj.Design b)).length-1]?=some y->atI (Zl.X7 y) 0=some m)/\v=ZAz b (ZAv (Zj.Design b)-2)/\
  ZBC b=some ((p.1,p.2.1,()),(Zj.Library b,unD b p m,ZBt (Zw (unD b p m)) ((Zj.Qg b).take ((Zj.Qg b).length-1)) (ZHb (λj=>if j=k then v else ZAz b j) (ZAv (unD b p m))),())):=by
 obtain ⟨k,p,hs,hp,hpn,hpd,hpi⟩:=hL.sink h;obtain ⟨x,c,w,m,hn,hx,hc,hk1,hk2,hl2,hm,hl,hne,hnm,hw,hs1,hs2,hp1,hc0⟩:=hL;have hD:=h.ok.1;have hf:=hD.few;have hpl:=V9 hf;have h14:=hf.insts;have h30:=hD.2.1.2.1;have hwn:=h.ok.2.1;obtain ⟨_,_,hnet⟩:=hD.2.2.1 x (List.mem_of_getElem? hx);have hm0:(Zl.X7 x)[0]?=some m:=hm;have hmn:=hnet m (List.mem_of_getElem? hm0);have hpos:1<=(Zg.X7 (Zj.Design b)).length:=by have:=hmn.1;have:=hmn.2;omega
 have hmn2:m<((Zg.X7 (Zj.Design b)).length:Int)-1:=by have:=hmn.2;omega
 have hx2:atI (Zg.Instances (Zj.Design b)) (((Zg.Instances (Zj.Design b)).length:Int)-1)=some x:=Zbc (by omega) (by rw[<-hx];congr 1;omega);have t1:Int.toNat (((Zg.Instances (Zj.Design b)).length:Int)-1)=(Zg.Instances (Zj.Design b)).length-1:=by omega
 have t2:Int.toNat (((Zg.X7 (Zj.Design b)).length:Int)-1)=(Zg.X7 (Zj.Design b)).length-1:=by omega
 have t3:Int.toNat (((Zj.Qg b).length:Int)-1)=(Zj.Qg b).length-1:=by omega
 have e:((Zj.Library b,(List.set (Zg.Instances (Zj.Design b)) ((Zg.Instances (Zj.Design b)).length-1) x,(Zj.Design b).snd),b.snd.snd):Zj)=b:=by rw[ZkQ hx]
 refine ⟨k,p,m,(Option.getD (ZrG Key (Ty.int IntKind.i64) (ZB5 (Zw (Zj.Design b)) (ZAz b) (Zw (Zj.Design b)).length) ((((Zg.Instances (Zj.Design b)).length:Int)-1),(0:Int),())) (0:Int)),hs,hp,hpi,λy hy=>by rw[hx] at hy;injection hy with hy;rw[<-hy];exact hm,?_,?_⟩
 ·have h5:=ZDs hx hm0
  rw[Nat.add_zero,ZHw hn hx hl2] at h5;have h6:=ZEl (Zj.Design b) (ZAz b) _ _ h5 (by
   show decide ((0:Int)=Wq (((Zl.X7 x).length:Int)-1))=false;rw[hl2,Zar (by omega) (by omega)];decide)
  have h7:ZIP (ZCC ((Zg.Instances (Zj.Design b)).length-1) x 0 m)=((((Zg.Instances (Zj.Design b)).length:Int)-1),(0:Int),()):=by
   show ((((Zg.Instances (Zj.Design b)).length-1:Nat):Int),(0:Int),())=_;rw[show (((Zg.Instances (Zj.Design b)).length-1:Nat):Int)=((Zg.Instances (Zj.Design b)).length:Int)-1 by omega]
  rw[h7] at h6;rw[h6];rfl
 unfold ZBC;rw[ZB3 h,Bq,Q5 _ hf,Bq,show Zbo (Zg.X7 (Zj.Design b))=some ((Zg.X7 (Zj.Design b)).length:Int) from rfl,Bq,
  Zar (n:=((Zg.X7 (Zj.Design b)).length:Int)-1) (by omega) (by omega),Zha _ _ hf,Bq,hs,show atI [(k:Int)] 0=some (k:Int) from rfl,Bq,Zu,hp,Bq,
  Zar (n:=((Zg.Instances (Zj.Design b)).length:Int)-1) (by omega) (by omega),hx2,Bq,show x.snd.snd.fst=Zl.X7 x from rfl,hm,Bq,t1,e,
  show (YA.instance p,YA.pin p,())=(p.1,p.2.1,()) from rfl,ZDT hp m,Bq]
 have eD:Zj.Design ((Zj.Library b,ZAE (Zj.Design b) p.1 p.2.1 m,Zj.Qg b,()):Zj)=ZAE (Zj.Design b) p.1 p.2.1 m:=rfl;have eW:Zj.Qg ((Zj.Library b,ZAE (Zj.Design b) p.1 p.2.1 m,Zj.Qg b,()):Zj)=Zj.Qg b:=rfl;have eL:Zj.Library ((Zj.Library b,ZAE (Zj.Design b) p.1 p.2.1 m,Zj.Qg b,()):Zj)=Zj.Library b:=rfl;rw[eD,eW,eL,ZAO,Zar (n:=((Zg.X7 (Zj.Design b)).length:Int)-1) (by omega) (by omega),Zar (n:=((Zj.Qg b).length:Int)-1) (by omega) (by omega),t2,t3,
  Zd (by omega),Zd (by rw[ZAA];omega),Zd (by omega),Zd (by omega),Zd (by omega),Zd (by omega)]
 simp only[Int.toNat_zero,Nat.sub_zero,List.drop_zero];have hB:((Zj.Library b,(List.take ((Zg.Instances (Zj.Design b)).length-1) (Zg.Instances (ZAE (Zj.Design b) p.1 p.2.1 m)),List.take ((Zg.X7 (Zj.Design b)).length-1) (Zg.X7 (Zj.Design b)),(ZAE (Zj.Design b) p.1 p.2.1 m).snd.snd),List.take ((Zj.Qg b).length-1) (Zj.Qg b),()):Zj)
   = (Zj.Library b,unD b p m,List.take ((Zj.Qg b).length-1) (Zj.Qg b),()):=by
  unfold unD ZAy;rw[ZAA,ZAO]
 rw[hB];have hx3:(Zg.Instances (ZAE (Zj.Design b) p.1 p.2.1 m))[(Zg.Instances (ZAE (Zj.Design b) p.1 p.2.1 m)).length-1]?=some ((Zg.Instances (ZAE (Zj.Design b) p.1 p.2.1 m))[(Zg.Instances (ZAE (Zj.Design b) p.1 p.2.1 m)).length-1]'(by rw[ZAA];omega)):=List.getElem?_eq_getElem _;generalize (Zg.Instances (ZAE (Zj.Design b) p.1 p.2.1 m))[(Zg.Instances (ZAE (Zj.Design b) p.1 p.2.1 m)).length-1]'(by rw[ZAA];omega)=x' at hx3;have hx4:(Zl.X7 x').length=2:=by
  obtain ⟨y,hy,_,_,hyl,_⟩:=ZDb hx3;rw[ZAA,hx] at hy;injection hy with hy
  rw[hyl,<-hy,hl2]
 have hM:=(((ZEl (Zj.Design b) (ZAz b)).put hp (Option.getD (ZrG Key (Ty.int IntKind.i64) (ZB5 (Zw (Zj.Design b)) (ZAz b) (Zw (Zj.Design b)).length) ((((Zg.Instances (Zj.Design b)).length:Int)-1),(0:Int),())) (0:Int))).set hp m);rw[<-ZAD hp m] at hM;have hM2:=hM.cut (by rw[ZAA];omega) hx3 hx4;have hlen:(List.take ((Zj.Qg b).length-1) (Zj.Qg b)).length=(Zj.Qg b).length-1:=by rw[List.length_take];omega
 have:=ZEt (b:=(Zj.Library b,unD b p m,List.take ((Zj.Qg b).length-1) (Zj.Qg b),())) (hf.ZAE p.1 p.2.1 m).cut hM2 (by
  show ZFp (Zw (unD b p m)) (List.take ((Zj.Qg b).length-1) (Zj.Qg b)).length;rw[hlen];exact ZJJ h hn hs hp hmn.1 hmn2) (by
  show (List.take ((Zj.Qg b).length-1) (Zj.Qg b)).length<=_;rw[hlen];omega)
 exact Eq.trans (congrArg (λo=>Option.bind o λconnect0=>some ((p.1,p.2.1,()),connect0)) this) rfl
theorem Zf2.put {w:Zx} {s:Int} (h:Zf2 w s) {l:List Int} (hl:Zf0 l 0 (((Zx.Parent w).length:Int)-1)):Zf2 (ZB6 w l) (l.length:Int) :=
 ⟨h.1,h.2.1,h.2.2.1,rfl,h.2.2.2.2.1,h.2.2.2.2.2.1,h.2.2.2.2.2.2.1,hl⟩
def Fits (pl:List Pl) (ws:List Zx) (nd:Nat->Int):Prop:=∀ (k:Nat) (p:Pl) (w:Zx),pl[k]?=some p->p.2.2.2.1=false->ws[p.2.2.1.toNat]?=some w->0<=nd k/\nd k<=((Zx.Parent w).length:Int)-1
theorem ZHX {pl:List Pl} {ws:List Zx} {nd:Nat->Int} (hw:∀ (v:Nat) (w:Zx),ws[v]?=some w->∃ s,Zf2 w s) (hf:Fits pl ws nd) :
  ZdM (ZBt pl ws nd) (λv w=>Zf2 w ((cat (Zl1 (v:Int)) 0 pl).length:Int)):=by
 intro v w hv;rw[ZAT] at hv;cases hx:ws[v]? with
 | none=>grind
 | some y =>
  rw[hx] at hv;injection hv with hv
  subst hv;obtain ⟨s,hs⟩:=hw v y hx;have:=hs.put (l:=(cat (Zl1 (v:Int)) 0 pl).map (λk=>nd k.toNat)) (λz hz=>by
   obtain ⟨j,hj,rfl⟩:=List.mem_map.1 hz;obtain ⟨k,p,rfl,hp,h1,h2⟩:=ZIj hj;exact hf k p y hp h2 (by rw[h1];exact hx))
  grind
theorem ZFj {b:Zj} (h:ZdN b):Fits (Zw (Zj.Design b)) (Zj.Qg b) (ZAz b):=by
 intro k p w hp h2 hw;obtain ⟨w',_,hw1,hw2,hw3⟩:=ZHQ h hp h2;rw[hw1] at hw;injection hw with hw
 subst hw;rw[Zu] at hw2;exact hw3.2.2.2.2.2.2.2 _ (List.mem_of_getElem? hw2)
theorem Fits.set {pl:List Pl} {ws:List Zx} {nd:Nat->Int} (h:Fits pl ws nd) {k0:Nat} {p0:Pl} (n v:Int) (hv:∀ w,ws[n.toNat]?=some w->0<=v/\v<=((Zx.Parent w).length:Int)-1) :
  Fits (pl.set k0 (p0.1,p0.2.1,n,p0.2.2.2.1,())) ws (λj=>if j=k0 then v else nd j):=by
 intro k p w hp h2 hw;rw[List.getElem?_set] at hp;split at hp
 ·grind
 ·rename_i e
  show 0<=(if k=k0 then v else nd k)/\(if k=k0 then v else nd k)<=_;rw[if_neg (λq=>e q.symm)];exact h k p w hp h2 hw
theorem X6.snoc {l:List (List UInt8)} {s:List UInt8} (h:X6 l l.length) (h1:QL s=true) (h2:s ∉ l):X6 (l++[s]) (l++[s]).length:=by
 intro j t hj ht;by_cases e:j<l.length
 ·rw[List.getElem?_append_left e] at ht
  obtain ⟨a,b⟩:=h j t e ht;grind
 grind
theorem X6.take {l:List (List UInt8)} (h:X6 l l.length) (m:Nat):X6 (l.take m) (l.take m).length:=by
 intro j t hj ht;rw[List.length_take] at hj;rw[List.getElem?_take,if_pos (by omega)] at ht;obtain ⟨a,b⟩:=h j t (by omega) ht;grind
theorem ZEr (d:Zg) (a b n:Int):ZcP (ZAE d a b n)=ZcP d:=by
 unfold ZAE;split
 ·rfl
 ·show List.map Zl.Name (match (Zg.Instances d)[a.toNat]? with | some x=>(Zg.Instances d).set a.toNat (ZCt x b.toNat n) | none=>Zg.Instances d)=List.map Zl.Name (Zg.Instances d)
  split
  ·rename_i x hx
   rw[List.map_set];exact ZkQ (by rw[List.getElem?_map,hx];rfl)
  ·rfl
theorem ZIa (d:Zg) (a b n:Int):ZaN (ZAE d a b n)=ZaN d:=by
 unfold ZAE;split
 ·show List.map Ye.Name (match (Zg.Xb d)[b.toNat]? with | some x=>(Zg.Xb d).set b.toNat (setPort x n) | none=>Zg.Xb d)=List.map Ye.Name (Zg.Xb d)
  split
  ·rename_i x hx
   rw[List.map_set];exact ZkQ (by rw[List.getElem?_map,hx];rfl)
  ·rfl
 ·rfl
theorem ZIb {d:Zg} {a b n:Int} {i:Nat} {y:Ye} (hy:(Zg.Xb (ZAE d a b n))[i]?=some y):∃ x,(Zg.Xb d)[i]?=some x/\Ye.Name y=Ye.Name x/\Ye.Dir y=Ye.Dir x/\(Ye.Net y=Ye.Net x\/Ye.Net y=n):=by
 unfold ZAE at hy;split at hy
 ·have hy:(match (Zg.Xb d)[b.toNat]? with | some x=>(Zg.Xb d).set b.toNat (setPort x n) | none=>Zg.Xb d)[i]?=some y:=hy
  split at hy
  ·rename_i x hx
   rw[List.getElem?_set] at hy;split at hy
   ·rename_i e
    split at hy
    ·injection hy with hy
     subst hy;exact ⟨x,by rw[<-e];exact hx,rfl,rfl,.inr rfl⟩
    ·cases hy
   grind
  grind
 grind
theorem ZFN {α:Type} {f:α->Bool} {y:α} (hy:f y=false):∀ {l:List α} {i:Nat} {x:α},l[i]?=some x->f x=false->(l.set i y).filter f=l.filter f
 | [],i,x,h,_=>by simp at h
 | a::l,0,x,h,hx=>by
  grind
 | a::l,i+1,x,h,hx=>by
  have:=ZFN hy (l:=l) (i:=i) (by simpa using h) hx;grind
theorem ZFk {x:Zl} (h:0<(Zl.X7 x).length):(Zl.X7 x)[(Zl.X7 x).length-1]?=some (ZbW x):=by
 unfold ZbW;grind
theorem ZHp {x:Zl} {j:Nat} {n:Int} (h:j+1≠(Zl.X7 x).length):ZbW (ZCt x j n)=ZbW x:=by
 by_cases h0:0<(Zl.X7 x).length
 ·have h1:=ZFk (x:=ZCt x j n) (by show 0<(List.set (Zl.X7 x) j n).length;grind)
  have h2:(List.set (Zl.X7 x) j n)[(List.set (Zl.X7 x) j n).length-1]?=some (ZbW (ZCt x j n)):=h1;rw[List.length_set,List.getElem?_set,if_neg (by omega),ZFk h0] at h2;grind
 ·have e:Zl.X7 x=[]:=List.length_eq_zero_iff.1 (by omega)
  unfold ZbW;show (List.set (Zl.X7 x) j n).getLastD 0=_;rw[e];rfl
theorem ZJs {d:Zg} (hf:Few d) {k:Nat} {p:Pl} (hp:(Zw d)[k]?=some p) (h2:p.2.2.2.1=false) (n:Int):Zyv (ZAE d p.1 p.2.1 n)=Zyv d:=by
 unfold Zyv;rcases ZBg hp with ⟨i,j,x,m,hx,hn,e,rfl⟩ | ⟨j,q,hq,e,rfl⟩
 ·have hl:=hf.nets x (List.mem_of_getElem? hx)
  have hj:=(List.getElem?_eq_some_iff.1 hn).1;have h3:decide ((j:Int)=Wq (((Zl.X7 x).length:Int)-1))=false:=h2;rw[Zar (by omega) (by omega)] at h3;have h4:¬((j:Int)=((Zl.X7 x).length:Int)-1):=of_decide_eq_false h3;have c:¬((i:Int)<0):=by omega
  have e1:Zg.Instances (ZAE d (ZCC i x j m).1 (ZCC i x j m).2.1 n)=(Zg.Instances d).set i (ZCt x j n):=by
   unfold ZAE;show Zg.Instances (if (i:Int)<0 then _ else _)=_;rw[if_neg c];show (match (Zg.Instances d)[(i:Int).toNat]? with | some x=>(Zg.Instances d).set (i:Int).toNat (ZCt x (j:Int).toNat n) | none=>Zg.Instances d)=_
   grind
  have e2:Zg.Xb (ZAE d (ZCC i x j m).1 (ZCC i x j m).2.1 n)=Zg.Xb d:=by
   unfold ZAE;show Zg.Xb (if (i:Int)<0 then _ else _)=_;rw[if_neg c]
  rw[e1,e2,List.map_set,ZHp (by omega),ZkQ (by grind)]
 ·have h3:decide (Ye.Dir q=1)=false:=h2
  have e1:Zg.Instances (ZAE d (-1) (j:Int) n)=Zg.Instances d:=by
   unfold ZAE;grind
  have e2:Zg.Xb (ZAE d (-1) (j:Int) n)=(Zg.Xb d).set j (setPort q n):=by
   unfold ZAE;grind
  show (Zg.Instances (ZAE d (-1) (j:Int) n)).map ZbW++((Zg.Xb (ZAE d (-1) (j:Int) n)).filter (λp=>decide (Ye.Dir p=1))).map Ye.Net=_;rw[e1,e2,ZFN (by exact h3) hq h3]
theorem ZIw {a:Zt} {d:Zg} (h:Zba a d) {k:Nat} {p:Pl} (hp:(Zw d)[k]?=some p) (h2:p.2.2.2.1=false) {n:Int} (hn:ZnY d n):Zba a (ZAE d p.1 p.2.1 n):=by
 obtain ⟨hl,⟨n1,n2,n3,n4,n5,n6⟩,hi,hq,ho⟩:=h;have hf:Few d:=Zba.few (a:=a) ⟨hl,⟨n1,n2,n3,n4,n5,n6⟩,hi,hq,ho⟩;refine ⟨hl,⟨by rw[ZAA];exact n1,by rw[ZAO];exact n2,by rw[ZEJ];exact n3,by rw[ZEr];exact n4,by rw[ZAO];exact n5,by rw[ZIa];exact n6⟩,λy hy=>?_,λy hy=>?_,?_⟩
 ·obtain ⟨i,hi2⟩:=List.getElem?_of_mem hy
  obtain ⟨x,hx,_,hc,hlen,_,hm⟩:=ZDb hi2;obtain ⟨r1,⟨c,r2,r3⟩,r4⟩:=hi x (List.mem_of_getElem? hx);refine ⟨by rw[hc];exact r1,⟨c,by rw[hc];exact r2,by rw[hlen];exact r3⟩,λm hm2=>?_⟩;unfold ZnY;rw[ZAO];rcases hm m hm2 with q | q
  ·exact r4 m q
  ·rw[q];exact hn
 ·obtain ⟨i,hi2⟩:=List.getElem?_of_mem hy
  obtain ⟨x,hx,_,hd,hm⟩:=ZIb hi2;obtain ⟨r1,r2⟩:=hq x (List.mem_of_getElem? hx);refine ⟨by rw[hd];exact r1,?_⟩;unfold ZnY;rw[ZAO];rcases hm with q | q
  ·rw[q];exact r2
  ·rw[q];exact hn
 ·unfold Zix
  rw[ZAO,ZJs hf hp h2];exact ho
theorem ZIN {a:Zt} {d:Zg} (h:Zba a d):∀ v∈Zyv d,ZnY d v:=by
 have hf:=h.few;intro v hv;unfold Zyv at hv;rcases List.mem_append.1 hv with hv | hv
 ·obtain ⟨x,hx,rfl⟩:=List.mem_map.1 hv
  have:=hf.nets x hx;exact ((h.2.2.1 x hx).last h.1 (by omega)).2
 ·obtain ⟨q,hq,rfl⟩:=List.mem_map.1 hv
  exact (h.2.2.2.1 q (List.mem_filter.1 hq).1).2
theorem ZGb {d:Zg}:Zix d<->∀ v:Nat,v<(Zg.X7 d).length->(Zyv d).countP (λx=>decide (x=(v:Int)))=1:=by
 unfold Zix;constructor
 ·intro h v hv
  have:=h _ (List.mem_of_getElem? (ZkL (s:=Zyv d) hv));omega
 ·intro h x hx
  obtain ⟨j,hj⟩:=List.getElem?_of_mem hx;have hlt:=(List.getElem?_eq_some_iff.1 hj).1;rw[ZiC] at hlt;rw[ZkL hlt] at hj;grind
theorem ZIx {l:List Int} {v:Int} (h:∀ x∈l,x≠v):l.countP (λx=>decide (x=v))=0:=by
 grind
theorem ZKY {a:Zt} {d:Zg} (h:Zba a d) {s:List UInt8} {c m:Int} {cell:Zk} (hs:QL s=true) (h1:s ∉ ZcP d) (h2:s ∉ Zg.X7 d) (h13:(Zg.Instances d).length<=13) (h29:(Zg.X7 d).length<=29)
  (hc0:0<=c) (hc1:c<=((Zt.Cells a).length:Int)-1) (hc:(Zt.Cells a)[c.toNat]?=some cell) (hp:(Zk.Yz cell).length=2) (hm:ZnY d m) :
  Zba a (ZAJ d (s,c,[m,((Zg.X7 d).length:Int)],()) s):=by
 have hdn:=ZIN h;obtain ⟨hl,⟨n1,n2,n3,n4,n5,n6⟩,hi,hq,ho⟩:=h;have eI:Zg.Instances (ZAJ d (s,c,[m,((Zg.X7 d).length:Int)],()) s)=Zg.Instances d++[(s,c,[m,((Zg.X7 d).length:Int)],())]:=rfl;have eN:Zg.X7 (ZAJ d (s,c,[m,((Zg.X7 d).length:Int)],()) s)=Zg.X7 d++[s]:=rfl;have eP:Zg.Xb (ZAJ d (s,c,[m,((Zg.X7 d).length:Int)],()) s)=Zg.Xb d:=rfl;have hnet:∀ n,ZnY d n->ZnY (ZAJ d (s,c,[m,((Zg.X7 d).length:Int)],()) s) n:=λn hn=>by
  unfold ZnY at *;grind
 refine ⟨hl,⟨by grind,by grind,n3,?_,by rw[eN];exact n5.snoc hs h2,n6⟩,λy hy=>?_,λy hy=>?_,?_⟩
 ·have:ZcP (ZAJ d (s,c,[m,((Zg.X7 d).length:Int)],()) s)=ZcP d++[s]:=by
   unfold ZcP;grind
  rw[this];exact n4.snoc hs h1
 ·rw[eI] at hy
  rcases List.mem_append.1 hy with hy | hy
  ·obtain ⟨r1,r2,r4⟩:=hi y hy
   exact ⟨r1,r2,λn hn=>hnet n (r4 n hn)⟩
  ·rw[List.mem_singleton] at hy
   subst hy;refine ⟨⟨hc0,hc1⟩,⟨cell,hc,by rw[hp];rfl⟩,λn hn=>?_⟩;have hn:n∈[m,((Zg.X7 d).length:Int)]:=hn;rcases List.mem_cons.1 hn with hn | hn
   ·grind
   ·rw[List.mem_singleton] at hn
    subst hn;unfold ZnY;grind
 ·obtain ⟨r1,r2⟩:=hq y hy
  exact ⟨r1,hnet _ r2⟩
 ·rw[ZGb] at ho ⊢
  intro v hv;rw[eN,List.length_append,List.length_singleton] at hv;have e:Zyv (ZAJ d (s,c,[m,((Zg.X7 d).length:Int)],()) s)=(Zg.Instances d).map ZbW++[((Zg.X7 d).length:Int)]++((Zg.Xb d).filter (λp=>decide (Ye.Dir p=1))).map Ye.Net:=by
   unfold Zyv;rw[eI,eP,List.map_append];rfl
  have e2:Zyv d=(Zg.Instances d).map ZbW++((Zg.Xb d).filter (λp=>decide (Ye.Dir p=1))).map Ye.Net:=rfl;rw[e,List.countP_append,List.countP_append,List.countP_singleton];by_cases hvl:v<(Zg.X7 d).length
  ·grind
  ·have h0:=ZIx (l:=Zyv d) (v:=(v:Int)) (λx hx=>by have:=(hdn x hx).2;omega)
   grind
theorem ZKH {d:Zg} (hf:Few d) {p:Pl} (hp:p∈Zw d) (h2:p.2.2.2.1=true):p.2.2.1∈Zyv d:=by
 obtain ⟨k,hk⟩:=List.getElem?_of_mem hp;unfold Zyv;rcases ZBg hk with ⟨i,j,x,m,hx,hn,e,rfl⟩ | ⟨j,q,hq,e,rfl⟩
 ·have hl:=hf.nets x (List.mem_of_getElem? hx)
  have hj:=(List.getElem?_eq_some_iff.1 hn).1;have h3:decide ((j:Int)=Wq (((Zl.X7 x).length:Int)-1))=true:=h2;rw[Zar (by omega) (by omega)] at h3;have h4:(j:Int)=((Zl.X7 x).length:Int)-1:=of_decide_eq_true h3;refine List.mem_append_left _ (List.mem_map.2 ⟨x,List.mem_of_getElem? hx,?_⟩);have h5:=ZFk (x:=x) (by omega);rw[show (Zl.X7 x).length-1=j by omega,hn] at h5;injection h5 with h5
  exact h5.symm
 grind
theorem ZK1 {a:Zt} {d:Zg} (h:Zba a d) {x:Zl} (hn:0<(Zg.Instances d).length) (hx:(Zg.Instances d)[(Zg.Instances d).length-1]?=some x) (hlx:ZbW x=((Zg.X7 d).length:Int)-1)
  (hs:∀ p∈Zw d,p.2.2.2.1=false->p.2.2.1≠((Zg.X7 d).length:Int)-1):Zba a (ZAy d):=by
 have hdn:=ZIN h;have hf:=h.few;have hcut:=ZGT hn hx;obtain ⟨hl,⟨n1,n2,n3,n4,n5,n6⟩,hi,hq,ho⟩:=h;have hpos:1<=(Zg.X7 d).length:=by
  have:=hdn (ZbW x) (List.mem_append_left _ (List.mem_map.2 ⟨x,List.mem_of_getElem? hx,rfl⟩));unfold ZnY at this;omega
 have eN:(Zg.X7 (ZAy d)).length=(Zg.X7 d).length-1:=by
  show (List.take ((Zg.X7 d).length-1) (Zg.X7 d)).length=_;grind
 have eD:Zyv d=(Zg.Instances (ZAy d)).map ZbW++[ZbW x]++((Zg.Xb d).filter (λp=>decide (Ye.Dir p=1))).map Ye.Net:=by
  unfold Zyv;grind
 have eC:Zyv (ZAy d)=(Zg.Instances (ZAy d)).map ZbW++((Zg.Xb d).filter (λp=>decide (Ye.Dir p=1))).map Ye.Net:=rfl;have hcnt:∀ v:Int,(Zyv d).countP (λy=>decide (y=v))=(Zyv (ZAy d)).countP (λy=>decide (y=v))+if ZbW x=v then 1 else 0:=λv=>by
  grind
 rw[ZGb] at ho;have none:∀ p∈Zw (ZAy d),p.2.2.1≠((Zg.X7 d).length:Int)-1:=by
  intro p hp e;cases h2:p.2.2.2.1 with
  | false=>exact hs p (ZFS hn hp) h2 e
  | true =>
   have h3:=ZKH hf.cut hp h2;have h4:=ho ((Zg.X7 d).length-1) (by omega);rw[hcnt,if_pos (by omega)] at h4;grind
 have netC:∀ n,ZnY d n->n≠((Zg.X7 d).length:Int)-1->ZnY (ZAy d) n:=λn h1 h2=>by
  unfold ZnY at *;rw[eN];omega
 have eI:∀ i y,(Zg.Instances (ZAy d))[i]?=some y->(Zg.Instances d)[i]?=some y:=λi y hy=>by
  rw[hcut,List.getElem?_append_left (List.getElem?_eq_some_iff.1 hy).1];exact hy
 refine ⟨hl,⟨by grind,by rw[eN];omega,n3,?_,n5.take _,n6⟩,λy hy=>?_,λy hy=>?_,?_⟩
 ·have:ZcP (ZAy d)=(ZcP d).take ((Zg.Instances d).length-1):=by
   unfold ZcP;show List.map Zl.Name (List.take _ (Zg.Instances d))=_;rw[List.map_take]
  rw[this];exact n4.take _
 ·obtain ⟨i,hy2⟩:=List.getElem?_of_mem hy
  obtain ⟨r1,r2,r4⟩:=hi y (List.mem_of_getElem? (eI i y hy2));refine ⟨r1,r2,λn hn2=>netC n (r4 n hn2) ?_⟩;obtain ⟨j,hj⟩:=List.getElem?_of_mem hn2;exact none _ (List.mem_of_getElem? (ZDs hy2 hj))
 ·obtain ⟨r1,r2⟩:=hq y hy
  obtain ⟨j,hj⟩:=List.getElem?_of_mem hy;exact ⟨r1,netC _ r2 (none _ (List.mem_of_getElem? (ZHT (d:=ZAy d) hj)))⟩
 ·rw[ZGb]
  intro v hv;rw[eN] at hv;have:=ho v (by omega);rw[hcnt,if_neg (by omega)] at this;exact this
theorem ZHf {l:List Int} (h:l.length<=1048576):sm (.sl (.int .i64)) l:=⟨by omega,λ_ _=>trivial⟩
theorem ZHg {s:List UInt8} {c:Int} {l:List Int} (h1:sm .str s) (h2:l.length<=1048576):sm YJ (s,c,l,()):=⟨h1,trivial,ZHf h2,trivial⟩
theorem ZIk {a b c d:List Int} (h1:a.length<=1048576) (h2:b.length<=1048576) (h3:c.length<=1048576) (h4:d.length<=1048576):sm Za9 (a,b,c,d,()):=⟨ZHf h1,ZHf h2,ZHf h3,ZHf h4,trivial⟩
theorem ZEU {a:List Zl} {b:List (List UInt8)} {c:List Ye} (h1:sm (.sl YJ) a) (h2:sm (.sl .str) b) (h3:sm (.sl ZcF) c):sm YU (a,b,c,()):=⟨h1,h2,h3,trivial⟩
theorem ZEO {a:Zt} {b:Zg} {c:List Zx} (h1:sm YR a) (h2:sm YU b) (h3:sm (.sl Za9) c):sm Xz (a,b,c,()):=⟨h1,h2,h3,trivial⟩
theorem ZIE {d:Zg} (h:sm YU d) (a b n:Int):sm YU (ZAE d a b n):=by
 obtain ⟨h1,h2,h3⟩:=Zjh h;have e:ZAE d a b n=(Zg.Instances (ZAE d a b n),Zg.X7 (ZAE d a b n),Zg.Xb (ZAE d a b n),()):=rfl;rw[e];refine ZEU ⟨by rw[ZAA];exact h1.1,λy hy=>?_⟩ (by rw[ZAO];exact h3) ⟨by rw[ZEJ];exact h2.1,λy hy=>?_⟩
 ·obtain ⟨i,hi⟩:=List.getElem?_of_mem hy
  obtain ⟨x,hx,hn,_,hl,_⟩:=ZDb hi;obtain ⟨s1,s2⟩:=Zov (ZeM h1 hx);have s3:=Zv s2;exact ZHg (s:=Zl.Name y) (c:=Zl.Cell y) (l:=Zl.X7 y) (by rw[hn];exact s1) (by rw[hl];exact s3)
 ·obtain ⟨i,hi⟩:=List.getElem?_of_mem hy
  obtain ⟨x,hx,hn,_⟩:=ZIb hi;have s1:=ZuZ (ZeM h2 hx);have:sm .str (Ye.Name y):=by rw[hn];exact s1
  exact ⟨this,trivial,trivial,trivial⟩
theorem ZK7 {d:Zg} (h:sm YU d) (hf:(Zg.Instances d).length<=100) (hn:(Zg.X7 d).length<=100) {x:Zl} {s:List UInt8} (hx:sm YJ x) (hs:sm .str s):sm YU (ZAJ d x s):=by
 obtain ⟨h1,h2,h3⟩:=Zjh h;refine ZEU ⟨by grind,λy hy=>?_⟩ ⟨by grind,λy hy=>?_⟩ h2
 ·rcases List.mem_append.1 hy with hy | hy
  ·exact h1.2 y hy
  grind
 ·rcases List.mem_append.1 hy with hy | hy
  ·exact h3.2 y hy
  grind
theorem ZII {t:Ty} {l:List t.den} (h:sm (.sl t) l) (m:Nat):sm (.sl t) (l.take m):=by
 have:=h.1;exact ⟨by grind,λx hx=>h.2 x (List.mem_of_mem_take hx)⟩
theorem ZK8 {d:Zg} (h:sm YU d):sm YU (ZAy d):=by
 obtain ⟨h1,h2,h3⟩:=Zjh h;exact ZEU (ZII h1 _) (ZII h3 _) h2
theorem ZHV {pl:List Pl} {ws:List Zx} {nd:Nat->Int} (h:sm (.sl Za9) ws) (hp:pl.length<=1048576):sm (.sl Za9) (ZBt pl ws nd):=by
 have h1:=h.1;refine ⟨by rw[ZD9];exact h1,λy hy=>?_⟩;obtain ⟨v,hv⟩:=List.getElem?_of_mem hy;rw[ZAT] at hv;cases hx:ws[v]? with
 | none=>grind
 | some w =>
  rw[hx] at hv;injection hv with hv
  subst hv;obtain ⟨a1,a2,a3,a4⟩:=Zp8 (ZeM h hx);have:=Zl2 (v:Int) pl 0;exact ZIk (Zv a1) (Zv a2) (Zv a3) (by grind)
theorem ZIR {b:Zj} (h:ZdN b) {k:Nat} {p:Pl} (hp:(Zw (Zj.Design b))[k]?=some p) (h2:p.2.2.2.1=false) {n v:Int} (hn:ZnY (Zj.Design b) n) (hv:∀ w,(Zj.Qg b)[n.toNat]?=some w->0<=v/\v<=((Zx.Parent w).length:Int)-1):ZdN (moved b k p n v):=by
 have hpl:Zw (mvD b p n)=(Zw (Zj.Design b)).set k (p.1,p.2.1,n,p.2.2.2.1,()):=ZAD hp n;obtain ⟨b1,b2,b3⟩:=ZnM h.sm;have hD:Zba (Zj.Library b) (mvD b p n):=ZIw h.ok.1 hp h2 hn;refine ⟨⟨hD,?_,?_⟩,?_⟩
 ·show (ZBt (Zw (mvD b p n)) (Zj.Qg b) (mvN b k v)).length=(Zg.X7 (ZAE (Zj.Design b) p.1 p.2.1 n)).length
  rw[ZD9,ZAO];exact h.ok.2.1
 ·exact ZHX (λv w hw=>⟨_,h.ok.2.2 v w hw⟩) (by rw[hpl];exact (ZFj h).set n v hv)
 ·have hl:=V9 hD.few
  exact ZEO b1 (ZIE b2 _ _ _) (ZHV b3 (by omega))
theorem ZH5 {c c2:Zk} (h1:sm V6 c) (h2:sm V6 c2) (h:ZA2 c c2=some true):(Zk.Yz c2).length=(Zk.Yz c).length:=by
 unfold ZA2 at h;grind
theorem ZDW {d:Zg} {i:Nat} {x:Zl} (hx:(Zg.Instances d)[i]?=some x) (c:Int):Zw ((Zg.Instances d).set i (Zl.Name x,c,Zl.X7 x,()),Zg.X7 d,Zg.Xb d,())=Zw d:=by
 show cat Zhx 0 ((Zg.Instances d).set i (Zl.Name x,c,Zl.X7 x,()))++cat Zi7 0 (Zg.Xb d)=_;unfold Zw;congr 1;have hlt:=(List.getElem?_eq_some_iff.1 hx).1;have e1:=ZEq Zhx hx;have hx2:((Zg.Instances d).set i (Zl.Name x,c,Zl.X7 x,()))[i]?=some (Zl.Name x,c,Zl.X7 x,()):=List.getElem?_set_self hlt;have e2:=ZEq Zhx hx2;rw[e1,e2,List.take_set_of_le (Nat.le_refl _),List.drop_set_of_lt (by omega)];rfl
theorem ZHB {b:Zj} (h:ZdN b) {i:Int} (h0:0<=i) {x:Zl} (hx:(Zg.Instances (Zj.Design b))[i.toNat]?=some x) {c:Int} {c1 c2:Zk} (hc1:(Zt.Cells (Zj.Library b))[(Zl.Cell x).toNat]?=some c1) (hc2:(Zt.Cells (Zj.Library b))[c.toNat]?=some c2)
  (hc:0<=c/\c<=((Zt.Cells (Zj.Library b)).length:Int)-1) (ha:(Zk.Yz c2).length=(Zk.Yz c1).length):ZdN (ZDa b i c):=by
 obtain ⟨b1,b2,b3⟩:=ZnM h.sm;obtain ⟨s1,s2,s3⟩:=Zjh b2;obtain ⟨⟨hl,⟨n1,n2,n3,n4,n5,n6⟩,hi,hq,ho⟩,hwn,hw⟩:=h.ok;have e:ZDa b i c=(Zj.Library b,((Zg.Instances (Zj.Design b)).set i.toNat (Zl.Name x,c,Zl.X7 x,()),Zg.X7 (Zj.Design b),Zg.Xb (Zj.Design b),()),Zj.Qg b,()):=by
  unfold ZDa;rw[hx]
 have hpl:=ZDW hx c;rw[e];have hmem:∀ y∈(Zg.Instances (Zj.Design b)).set i.toNat (Zl.Name x,c,Zl.X7 x,()),y∈Zg.Instances (Zj.Design b)\/y=(Zl.Name x,c,Zl.X7 x,()):=λy hy=>List.mem_or_eq_of_mem_set hy;refine ⟨⟨⟨hl,⟨by grind,n2,n3,?_,n5,n6⟩,λy hy=>?_,hq,?_⟩,hwn,?_⟩,?_⟩
 ·have:ZcP ((Zg.Instances (Zj.Design b)).set i.toNat (Zl.Name x,c,Zl.X7 x,()),Zg.X7 (Zj.Design b),Zg.Xb (Zj.Design b),())=ZcP (Zj.Design b):=by
   show List.map Zl.Name (List.set _ _ _)=_;rw[List.map_set];exact ZkQ (by grind)
  exact this▸n4
 ·rcases hmem y hy with hy | hy
  ·exact hi y hy
  ·subst hy
   obtain ⟨r1,⟨c',r2,r3⟩,r4⟩:=hi x (List.mem_of_getElem? hx);have r2:(Zt.Cells (Zj.Library b))[(Zl.Cell x).toNat]?=some c':=r2;rw[hc1] at r2;injection r2 with r2
   subst r2;exact ⟨hc,⟨c2,hc2,by rw[ha];exact r3⟩,r4⟩
 ·unfold Zix
  have:Zyv ((Zg.Instances (Zj.Design b)).set i.toNat (Zl.Name x,c,Zl.X7 x,()),Zg.X7 (Zj.Design b),Zg.Xb (Zj.Design b),())=Zyv (Zj.Design b):=by
   unfold Zyv;congr 1;show List.map ZbW (List.set _ _ _)=_;rw[List.map_set];exact ZkQ (by rw[List.getElem?_map,hx];rfl)
  rw[this];exact ho
 ·intro k w hk
  have:=hw k w hk;unfold Zhl at *;grind
 ·refine ZEO b1 (ZEU ⟨by grind,λy hy=>?_⟩ s3 s2) b3
  rcases hmem y hy with hy | hy
  ·exact s1.2 y hy
  ·subst hy
   obtain ⟨q1,q2⟩:=Zov (ZeM s1 hx);exact ZHg q1 (Zv q2)
theorem ZIn {b:Zj} (h:ZdN b) {n:Int} (hn:ZnY (Zj.Design b) n) {w:Zx} (hw:Zf2 w ((Zhl (Zj.Design b) n).length:Int)) (hs:sm Za9 w):ZdN (ZIZ b n w):=by
 obtain ⟨b1,b2,b3⟩:=ZnM h.sm;obtain ⟨hD,hwn,hW⟩:=h.ok;refine ⟨⟨hD,by show (List.set _ _ _).length=_;rw[List.length_set];exact hwn,?_⟩,ZEO b1 b2 ⟨by rw[List.length_set];exact b3.1,λy hy=>?_⟩⟩
 ·intro k y hk
  have hk:((Zj.Qg b).set n.toNat w)[k]?=some y:=hk;rw[List.getElem?_set] at hk;split at hk
  ·rename_i e
   split at hk
   ·injection hk with hk
    subst hk;rw[<-e];show Zf2 w ((Zhl (Zj.Design b) ((n.toNat:Nat):Int)).length:Int);rw[show ((n.toNat:Nat):Int)=n by have:=hn.1;omega];exact hw
   ·cases hk
  ·exact hW k y hk
 ·rcases List.mem_or_eq_of_mem_set hy with hy | hy
  ·exact b3.2 y hy
  ·rw[hy];exact hs
theorem ZDr {b:Zj} (h:ZdN b) {e:ZgL} {k:Nat} {p q:Pl} (hp:(Zw (Zj.Design b))[k]?=some p):(Zw (ZAJ (Zj.Design b) (ZEk b e q) (ZgL.Name e)))[ZFv b k]?=some p:=by
 unfold ZFv;by_cases hk:k<ZAv (Zj.Design b)
 ·rw[if_pos hk,ZFq hk];exact hp
 ·rw[if_neg hk]
  have:=ZE4 (d:=Zj.Design b) (x:=ZEk b e q) (s:=ZgL.Name e) (k:=k) (by omega);rw[show (Zl.X7 (ZEk b e q)).length=2 from rfl] at this;rw[this];exact hp
theorem ZGM {d:Zg} {k:Nat} {p:Pl} (hp:(Zw d)[k]?=some p) (h1:p.1<((Zg.Instances d).length:Int)\/True):p.1<((Zg.Instances d).length:Int):=by
 rcases ZBg hp with ⟨i,j,x,m,hx,hn,e,rfl⟩ | ⟨j,q,hq,e,rfl⟩
 ·have:=(List.getElem?_eq_some_iff.1 hx).1
  show (i:Int)<_;omega
 grind
theorem ZDX {b:Zj} {e:ZgL} {k:Nat} {p:Pl} (hp:(Zw (Zj.Design b))[k]?=some p):ZDS b e p=ZAE (ZAJ (Zj.Design b) (ZEk b e p) (ZgL.Name e)) p.1 p.2.1 ((Zg.X7 (Zj.Design b)).length:Int) :=
 (ZHI (ZGM hp (.inr trivial))).symm
theorem ZKE:Zf2 ZH7 0:=by
 refine ⟨⟨by decide,by decide⟩,rfl,rfl,rfl,λk x hk=>?_,?_,?_,?_⟩
 ·match k,hk with
  | 0,hk =>
   injection hk with hk
   exact ⟨λ_=>⟨hk.symm,rfl⟩,λh=>by omega⟩
  | k+1,hk=>cases hk
 ·intro x hx
  grind
 ·intro x hx
  grind
 ·intro x hx
  cases hx
theorem ZKe {b:Zj} (h:ZdN b) {e:ZgL} {k:Nat} {p:Pl} (hp:(Zw (Zj.Design b))[k]?=some p) (h2:p.2.2.2.1=false) :
  Fits (Zw (ZAJ (Zj.Design b) (ZEk b e p) (ZgL.Name e))) (Zj.Qg b++[ZH7]) (ZHa (ZAz b) (ZAv (Zj.Design b)) (ZAz b k)):=by
 have hf:=h.ok.1.few;have hold:=ZFj h;have hws:∀ (m:Int) (w:Zx),ZnY (Zj.Design b) m->(Zj.Qg b++[ZH7])[m.toNat]?=some w->(Zj.Qg b)[m.toNat]?=some w:=λm w hm hw=>by
  rw[List.getElem?_append_left (by rw[h.ok.2.1];unfold ZnY at hm;omega)] at hw;exact hw
 intro j q w hq hd hw;unfold ZHa;have hil:ZAv (Zj.Design b)<=ZAv (Zj.Design b):=Nat.le_refl _;by_cases c1:j<ZAv (Zj.Design b)
 ·rw[if_pos c1]
  rw[ZFq c1] at hq;exact hold j q w hq hd (hws _ _ (Zol h.ok.1 (List.mem_of_getElem? hq)) hw)
 ·rw[if_neg c1]
  by_cases c2:j=ZAv (Zj.Design b)
  ·rw[if_pos c2]
   have:=add_mid (d:=Zj.Design b) (x:=ZEk b e p) (s:=ZgL.Name e) (j:=0) (by show 0<2;omega);rw[Nat.add_zero,<-c2,hq] at this;have e1:q=ZCC (Zg.Instances (Zj.Design b)).length (ZEk b e p) 0 p.2.2.1:=by
    have h3:=ZC0 (i:=(Zg.Instances (Zj.Design b)).length) (x:=ZEk b e p) (j:=0) (n:=p.2.2.1) rfl;grind
   have e2:q.2.2.1=p.2.2.1:=by rw[e1];rfl
   rw[e2] at hw;exact hold k p w hp h2 (hws _ _ (Zol h.ok.1 (List.mem_of_getElem? hp)) hw)
  ·rw[if_neg c2]
   by_cases c3:j=ZAv (Zj.Design b)+1
   ·exfalso
    have:=add_mid (d:=Zj.Design b) (x:=ZEk b e p) (s:=ZgL.Name e) (j:=1) (by show 1<2;omega);rw[<-c3,hq] at this;have h3:=ZC0 (i:=(Zg.Instances (Zj.Design b)).length) (x:=ZEk b e p) (j:=1) (n:=((Zg.X7 (Zj.Design b)).length:Int)) rfl;rw[<-this] at h3;injection h3 with h3
    rw[h3] at hd;revert hd;show ¬(decide ((1:Int)=Wq ((2:Int)-1))=false);rw[Zar (by omega) (by omega)];simp
   ·rw[if_neg c3]
    have:=ZE4 (d:=Zj.Design b) (x:=ZEk b e p) (s:=ZgL.Name e) (k:=j-2) (by omega);rw[show (Zl.X7 (ZEk b e p)).length=2 from rfl,show j-2+2=j by omega,hq] at this;exact hold (j-2) q w this.symm hd (hws _ _ (Zol h.ok.1 (List.mem_of_getElem? this.symm)) hw)
theorem ZHv {α:Type} {p:α->Bool} {l:List α} (h:Zdq p l<0):∀ x∈l,p x=false:=by
 intro x hx;cases hp:p x with
 | false=>rfl
 | true =>
  have:=VD.2 (List.any_eq_true.2 ⟨x,hx,hp⟩);omega
theorem ZEo {b:Zj} {e:ZgL} (h:ZCe b e) (k2:ZgL.Kind e=2) (hs:sm .str (ZgL.Name e)) {p:Pl} (hp:ZCd b e p):ZdN (ZBk b e (ZgL.Place e).toNat p):=by
 have hB:=h.blk;obtain ⟨b1,b2,b3⟩:=ZnM hB.sm;obtain ⟨l1,l2⟩:=h.lim k2;obtain ⟨p',c,hp',hd,hc,hk,hpins,hname,hni,hnn⟩:=h.poss.2.1 k2;have:p'=p:=by
  have:=hp'.2;rw[hp.2] at this;grind
 subst this;obtain ⟨_,hcr⟩:=h.range.1 (.inr k2);have hc2:(Zt.Cells (Zj.Library b))[(ZgL.Cell e).toNat]?=some c:=by
  have:=hc;unfold atI at this;grind
 have hA:Zba (Zj.Library b) (ZAJ (Zj.Design b) (ZEk b e p') (ZgL.Name e)):=by
  refine ZKY hB.ok.1 hname (λhm=>?_) (λhm=>?_) l1 l2 hcr.1 hcr.2 hc2 hpins (Zol hB.ok.1 hp.mem)
  ·obtain ⟨x,hx,e1⟩:=List.mem_map.1 hm
   have:=ZHv hni x hx;simp[e1] at this
  ·have:=ZHv hnn _ hm
   simp at this
 have hN:ZnY (ZAJ (Zj.Design b) (ZEk b e p') (ZgL.Name e)) ((Zg.X7 (Zj.Design b)).length:Int):=by
  unfold ZnY;show 0<=_/\_<=((Zg.X7 (Zj.Design b)++[ZgL.Name e]).length:Int)-1;grind
 have hpk:=ZDr (e:=e) (q:=p') hB hp.2;have hD:Zba (Zj.Library b) (ZDS b e p'):=by
  rw[ZDX hp.2];exact ZIw hA hpk hd hN
 have hl:=V9 hD.few;have hwn:=hB.ok.2.1;have hpl:Zw (ZDS b e p')=(Zw (ZAJ (Zj.Design b) (ZEk b e p') (ZgL.Name e))).set (ZFv b (ZgL.Place e).toNat) (p'.1,p'.2.1,((Zg.X7 (Zj.Design b)).length:Int),p'.2.2.2.1,()):=by
  rw[ZDX hp.2];exact ZAD hpk _
 refine ⟨⟨hD,?_,?_⟩,?_⟩
 ·show (ZBt (Zw (ZDS b e p')) (Zj.Qg b++[ZH7]) (ZIr b (ZgL.Place e).toNat)).length=(Zg.X7 (ZAE (Zj.Design b) p'.1 p'.2.1 _)++[ZgL.Name e]).length
  rw[ZD9,List.length_append,List.length_append,ZAO,hwn];rfl
 ·refine ZHX (pl:=Zw (ZDS b e p')) (λv w hw=>?_) ?_
  ·by_cases hv:v<(Zj.Qg b).length
   ·rw[List.getElem?_append_left hv] at hw
    exact ⟨_,hB.ok.2.2 v w hw⟩
   ·rw[List.getElem?_append_right (by omega)] at hw
    have:=List.mem_of_getElem? hw;rw[List.mem_singleton] at this;rw[this];exact ⟨_,ZKE⟩
  ·rw[hpl]
   refine (ZKe hB hp.2 hd).set _ 0 (λw hw=>?_);rw[Int.toNat_natCast,<-hwn,List.getElem?_append_right (Nat.le_refl _),Nat.sub_self] at hw;grind
 ·refine ZEO b1 ?_ (ZHV ⟨?_,λy hy=>?_⟩ (by omega))
  ·exact ZK7 (ZIE b2 _ _ _) (by rw[ZAA];omega) (by rw[ZAO];omega) (ZHg hs (by show 2<=_;omega)) hs
  ·grind
  ·rcases List.mem_append.1 hy with hy | hy
   ·exact b3.2 y hy
   ·rw[List.mem_singleton] at hy
    rw[hy];exact ZIk (by decide) (by decide) (by decide) (by decide)
theorem Fits.cut {d:Zg} {ws:List Zx} {nd:Nat->Int} (h:Fits (Zw d) ws nd) {x:Zl} (hn:0<(Zg.Instances d).length) (hx:(Zg.Instances d)[(Zg.Instances d).length-1]?=some x) (h2:(Zl.X7 x).length=2) (m:Nat) :
  Fits (Zw (ZAy d)) (ws.take m) (ZHb nd (ZAv (ZAy d))):=by
 intro k p w hp hd hw;rw[List.getElem?_take] at hw;split at hw
 ·unfold ZHb
  have hpc:=ZEn (s:=[]) hn hx;by_cases c:k<ZAv (ZAy d)
  ·rw[if_pos c]
   exact h k p w (by rw[hpc,ZFq c];exact hp) hd hw
  ·rw[if_neg c]
   have:=ZE4 (d:=ZAy d) (x:=x) (s:=[]) (k:=k) (by omega);rw[h2] at this;exact h (k+2) p w (by grind) hd hw
 ·cases hw
theorem ZC1 (d:Zg):(Zw d).length=ZAv d+(Zg.Xb d).length:=by
 unfold Zw ZAv;rw[List.length_append,ZIf]
theorem ZDQ {d:Zg} {k:Nat} {p:Pl} (hp:(Zw d)[k]?=some p) (n:Int):ZAv (ZAE d p.1 p.2.1 n)=ZAv d:=by
 have h1:=ZC1 d;have h2:=ZC1 (ZAE d p.1 p.2.1 n);rw[ZAD hp,List.length_set,ZEJ] at h2;omega
theorem ZEZ {b:Zj} (h:ZdN b) (hL:ZEI b) {k:Nat} {p:Pl} {m:Int} (hs:Zhl (Zj.Design b) (((Zg.X7 (Zj.Design b)).length:Int)-1)=[(k:Int)]) (hp:(Zw (Zj.Design b))[k]?=some p) (hpi:p.1≠((Zg.Instances (Zj.Design b)).length:Int)-1)
  (hm:∀ x,(Zg.Instances (Zj.Design b))[(Zg.Instances (Zj.Design b)).length-1]?=some x->atI (Zl.X7 x) 0=some m):ZdN (ZAP b k p m):=by
 obtain ⟨b1,b2,b3⟩:=ZnM h.sm;obtain ⟨k',p',hs',hp',hpn,hpd,hpi'⟩:=hL.sink h;have ek:k=k':=by
  grind
 subst ek;rw[hp] at hp';injection hp' with hp'
 subst hp';obtain ⟨x,c,w,m',hn,hx,hc,hk1,hk2,hl2,hm',hl,hne,hnm,hw,hs1,hs2,hp1,hc0⟩:=hL;have em:m'=m:=by
  grind
 subst em;have hD:=h.ok.1;have hwn:=h.ok.2.1;have hm0:(Zl.X7 x)[0]?=some m':=hm';have hl1:(Zl.X7 x)[1]?=some (((Zg.X7 (Zj.Design b)).length:Int)-1):=hl;have hmn:=(hD.2.2.1 x (List.mem_of_getElem? hx)).2.2 m' (List.mem_of_getElem? hm0);have hlx:ZbW x=((Zg.X7 (Zj.Design b)).length:Int)-1:=by
  have:=ZFk (x:=x) (by omega);grind
 have hC:Zba (Zj.Library b) (ZAE (Zj.Design b) p.1 p.2.1 m'):=ZIw hD hp hpd hmn;have hn2:0<(Zg.Instances (ZAE (Zj.Design b) p.1 p.2.1 m')).length:=by rw[ZAA];exact hn
 have hx2:(Zg.Instances (ZAE (Zj.Design b) p.1 p.2.1 m'))[(Zg.Instances (ZAE (Zj.Design b) p.1 p.2.1 m')).length-1]?=some x:=by
  have hy:(Zg.Instances (ZAE (Zj.Design b) p.1 p.2.1 m'))[(Zg.Instances (ZAE (Zj.Design b) p.1 p.2.1 m')).length-1]?=some ((Zg.Instances (ZAE (Zj.Design b) p.1 p.2.1 m'))[(Zg.Instances (ZAE (Zj.Design b) p.1 p.2.1 m')).length-1]'(by omega)):=List.getElem?_eq_getElem _;generalize (Zg.Instances (ZAE (Zj.Design b) p.1 p.2.1 m'))[(Zg.Instances (ZAE (Zj.Design b) p.1 p.2.1 m')).length-1]'(by omega)=y at hy;obtain ⟨x',hx',_,_,_,he,_⟩:=ZDb hy;rw[ZAA,hx] at hx';injection hx' with hx'
  rw[hy,hx',he (by rw[ZAA];omega)]
 have hsn:∀ q∈Zw (ZAE (Zj.Design b) p.1 p.2.1 m'),q.2.2.2.1=false->q.2.2.1≠((Zg.X7 (ZAE (Zj.Design b) p.1 p.2.1 m')).length:Int)-1:=by
  intro q hq hd e;rw[ZAO] at e;rw[ZAD hp] at hq;obtain ⟨j,hj⟩:=List.getElem?_of_mem hq;rw[List.getElem?_set] at hj;split at hj
  ·grind
  ·rename_i hjk
   have h3:=ZEM hj e hd;have h4:(Zhl (Zj.Design b) (((Zg.X7 (Zj.Design b)).length:Int)-1))[nth (Zw (Zj.Design b)) (((Zg.X7 (Zj.Design b)).length:Int)-1) j]?=some (j:Int):=h3;rw[hs] at h4;have h5:=List.mem_of_getElem? h4;rw[List.mem_singleton] at h5;grind
 have hU:Zba (Zj.Library b) (unD b p m'):=ZK1 hC hn2 hx2 (by rw[ZAO];exact hlx) hsn;have hins:ZAv (unD b p m')=ZAv (Zj.Design b)-2:=by
  have h1:=ZDZ hn2 hx2 hl2;have h2:=ZDQ hp m';unfold unD;omega
 have hpl:=V9 hU.few;refine ⟨⟨hU,?_,?_⟩,?_⟩
 ·show (ZBt (Zw (unD b p m')) ((Zj.Qg b).take ((Zj.Qg b).length-1)) (unN b k)).length=((Zg.X7 (ZAE (Zj.Design b) p.1 p.2.1 m')).take ((Zg.X7 (ZAE (Zj.Design b) p.1 p.2.1 m')).length-1)).length
  rw[ZD9,List.length_take,List.length_take,ZAO,hwn]
 ·refine ZHX (pl:=Zw (unD b p m')) (λv w hw=>?_) ?_
  ·rw[List.getElem?_take] at hw
   split at hw
   ·exact ⟨_,h.ok.2.2 v w hw⟩
   ·cases hw
  ·have h1:Fits (Zw (ZAE (Zj.Design b) p.1 p.2.1 m')) (Zj.Qg b) (mvN b k (ZAz b (ZAv (Zj.Design b)-2))):=by
    rw[ZAD hp];refine (ZFj h).set m' _ (λw' hw'=>?_);have h5:=ZDs hx hm0;rw[Nat.add_zero,ZHw hn hx hl2] at h5;refine ZFj h _ _ w' h5 ?_ hw';show decide ((0:Int)=Wq (((Zl.X7 x).length:Int)-1))=false;rw[hl2,Zar (by omega) (by omega)];decide
   have h2:=h1.cut hn2 hx2 hl2 ((Zj.Qg b).length-1);have h3:ZAv (ZAy (ZAE (Zj.Design b) p.1 p.2.1 m'))=ZAv (Zj.Design b)-2:=hins;rw[h3] at h2;exact h2
 ·exact ZEO b1 (ZK8 (ZIE b2 _ _ _)) (ZHV (ZII b3 _) (by omega))
theorem ZGI (t:Zy) (ht:sm XF t):ZEV t=some t:=by
 have e1:=ZDy (Zy.ZgK t) (Zv (t:=.int .i64) ht.1);have e2:=ZDy (Zy.Loads t) (Zv (t:=.int .i64) ht.2.1);have e3:=ZDy (Zy.Values t) (Zv (t:=.int .i64) ht.2.2.1);unfold ZEV;rw[e1,e2,e3];rfl
theorem ZEP (l:List Zy) (hl:sm (.sl XF) l):ZB8 l=some l:=by
 have h1:=Zv hl;unfold ZB8;have:=JF (l:=l) (λk=>(l.take k,(k:Int),())) (step:=λv=>ZBv l v.1 v.2.1) (good:=l) (λk x hx hk=>by
  have hg:((l.take k).length+[x].length)*72<=140737488355328:=by grind
  simp only[ZBv,show (k:Int)<(l.length:Int) by omega,if_true,Zu,hx,Bq,ZGI x (ZeM hl hx),Zd hg,Jb (show k<=1048576 by omega)];rw[Yy hx]) (by
  simp only[ZBv,Int.lt_irrefl,if_false,List.take_length])
 simpa using this
theorem ZHj (c:Zk) (hs:sm V6 c):ZEW c=some c:=by
 have p1:sm (.sl ZfZ) (Zk.Yz c):=hs.2.2.1;have p2:sm (.sl Zgv) (Zk.JR c):=hs.2.2.2.1;have p3:sm (.sl (.int .i64)) (Zk.Truth c):=hs.2.2.2.2.1;have l1:=Zv p1;have l2:=Zv p2;have l3:=Zv p3;unfold ZEW;rw[Zd (by grind),ZDy _ l3,Bq];have:=JF (l:=Zk.JR c) (λk=>((k:Int),(Zk.JR c).take k,())) (step:=λv=>ZC3 c (Zk.Truth c) v.1 v.2.1) (good:=c) (λk x hx hk=>by
  obtain ⟨q1,q2⟩:=ZuX (ZeM p2 hx);have hg:∀ y:ZC,(((Zk.JR c).take k).length+[y].length)*80<=140737488355328:=λy=>by grind
  simp only[ZC3,show (k:Int)<((Zk.JR c).length:Int) by omega,if_true,Zu,hx,Bq,ZEP _ q1,ZEP _ q2,Zd (hg _),Jb (show k<=1048576 by omega)];rw[Yy hx]) (by
  simp only[ZC3,Int.lt_irrefl,if_false,List.take_length];rfl)
 simpa using this
theorem ZFX (a:Zt) (ha:sm YR a):ZCJ a=some a:=by
 have hc:=Ztf ha;have h1:=Zv hc;unfold ZCJ;have:=JF (l:=Zt.Cells a) (λk=>((k:Int),(Zt.Cells a).take k,())) (step:=λv=>ZBs a v.1 v.2.1) (good:=a) (λk x hx hk=>by
  have hg:(((Zt.Cells a).take k).length+[x].length)*112<=140737488355328:=by grind
  simp only[ZBs,show (k:Int)<((Zt.Cells a).length:Int) by omega,if_true,Zu,hx,Bq,ZHj x (ZeM hc hx),Zd hg,Jb (show k<=1048576 by omega)];rw[Yy hx]) (by
  simp only[ZBs,Int.lt_irrefl,if_false,List.take_length])
 simpa using this
theorem ZGd (d:Zg) (hd:sm YU d):ZEY d=some d:=by
 obtain ⟨s1,s2,s3⟩:=Zjh hd;have l1:=Zv s1;have l2:=Zv s2;have l3:=Zv s3;unfold ZEY;rw[Zd (by grind),Zd (by grind)];have:=JF (l:=Zg.Instances d) (λk=>((k:Int),(Zg.Instances d).take k,())) (step:=λv=>ZC4 d v.1 v.2.1) (good:=d) (λk x hx hk=>by
  have hx2:=ZDy (Zl.X7 x) (Zv (Zov (ZeM s1 hx)).2);have hg:∀ y:Zl,(((Zg.Instances d).take k).length+[y].length)*48<=140737488355328:=λy=>by grind
  simp only[ZC4,show (k:Int)<((Zg.Instances d).length:Int) by omega,if_true,Zu,hx,Bq,hx2,Zd (hg _),Jb (show k<=1048576 by omega)];rw[Yy hx]) (by
  simp only[ZC4,Int.lt_irrefl,if_false,List.take_length];rfl)
 simpa using this
theorem ZHk (b:Zj) (hb:sm Xz b):ZEw b=some b:=by
 obtain ⟨b1,b2,b3⟩:=ZnM hb;have h1:=Zv b3;unfold ZEw;rw[ZFX _ b1,Bq,ZGd _ b2,Bq];have:=JF (l:=Zj.Qg b) (λk=>((k:Int),(Zj.Qg b).take k,())) (step:=λv=>ZC5 b (Zj.Library b) (Zj.Design b) v.1 v.2.1) (good:=b) (λk x hx hk=>by
  have hg:(((Zj.Qg b).take k).length+[x].length)*96<=140737488355328:=by grind
  simp only[ZC5,show (k:Int)<((Zj.Qg b).length:Int) by omega,if_true,Zu,hx,Bq,ZCX x (ZeM b3 hx),Zd hg,Jb (show k<=1048576 by omega)];rw[Yy hx]) (by
  simp only[ZC5,Int.lt_irrefl,if_false,List.take_length])
 simpa using this
theorem ZEv {d:Zg} {k:Nat} {p:Pl} (hp:(Zw d)[k]?=some p) (n:Int):ZB9 d p n=some (ZAE d p.1 p.2.1 n):=by
 unfold ZB9 ZAE;rcases ZBg hp with ⟨i,j,x,m,hx,hn,e,rfl⟩ | ⟨j,q,hq,e,rfl⟩
 ·have c:¬((i:Int)<0):=by omega
  simp only[ZCC,Ya.instance,Ya.pin,if_neg c,Zu,hx,Bq,Int.toNat_natCast];have hn2:x.2.2.1[j]?=some m:=hn;rw[hn2];rfl
 ·have c:((-1:Int)<0):=by omega
  simp only[Ya.instance,Ya.pin,if_pos c,Zu,hq,Bq,Int.toNat_natCast];rfl
def ZJY (pl:List Pl) (ws:List Zx) (nd:Nat->Int) (k:Nat):List Zx:=cat (λv w=>[if v<k then ZB6 w ((cat (Zl1 (v:Int)) 0 pl).map (λk=>nd k.toNat)) else w]) 0 ws
theorem ZFl (pl:List Pl) (ws:List Zx) (nd:Nat->Int) (k v:Nat):(ZJY pl ws nd k)[v]?=(ws[v]?).map (λw=>if v<k then ZB6 w ((cat (Zl1 (v:Int)) 0 pl).map (λk=>nd k.toNat)) else w):=by
 unfold ZJY;rw[ZCf,Nat.zero_add]
theorem ZHY (pl:List Pl) (ws:List Zx) (nd:Nat->Int) (k:Nat):(ZJY pl ws nd k).length=ws.length:=ZBV _ _
theorem ZJ0 (pl:List Pl) (ws:List Zx) (nd:Nat->Int):ZJY pl ws nd 0=ws:=by
 apply List.ext_getElem?;intro v;rw[ZFl];simp
theorem ZKw (pl:List Pl) (ws:List Zx) (nd:Nat->Int):ZJY pl ws nd ws.length=ZBt pl ws nd:=by
 apply List.ext_getElem?;intro v;rw[ZFl,ZAT];grind
theorem ZJZ {pl:List Pl} {ws:List Zx} {nd:Nat->Int} {k:Nat} {w:Zx} (hw:ws[k]?=some w):(ZJY pl ws nd k)[k]?=some w/\(ZJY pl ws nd k).set k (ZB6 w ((cat (Zl1 (k:Int)) 0 pl).map (λk=>nd k.toNat)))=ZJY pl ws nd (k+1):=by
 constructor
 ·rw[ZFl,hw];simp
 ·apply List.ext_getElem?
  intro v;rw[List.getElem?_set,ZHY];split
  ·rename_i e
   subst e;rw[if_pos (List.getElem?_eq_some_iff.1 hw).1,ZFl,hw,Option.map_some,if_pos (by omega)]
  ·rw[ZFl,ZFl]
   grind
theorem ZEH {b:Zj} {nodes:List Int} (hf:Few (Zj.Design b)) (hl:nodes.length=(Zw (Zj.Design b)).length) (hw:(Zj.Qg b).length<=1048576) :
  ZBm b nodes=some (Zj.Library b,Zj.Design b,ZBt (Zw (Zj.Design b)) (Zj.Qg b) (ZHc nodes),()):=by
 have hpl:=V9 hf;unfold ZBm;have:=JF (l:=Zj.Qg b) (λk=>((k:Int),ZJY (Zw (Zj.Design b)) (Zj.Qg b) (ZHc nodes) k,())) (step:=λv=>ZBY b nodes v.1 v.2.1) (good:=(Zj.Library b,Zj.Design b,ZBt (Zw (Zj.Design b)) (Zj.Qg b) (ZHc nodes),())) (λk w hk hlt=>by
  obtain ⟨a1,a2⟩:=ZJZ (nd:=ZHc nodes) (pl:=Zw (Zj.Design b)) hk;have hlc:(Zhl (Zj.Design b) (k:Int)).length<=(Zw (Zj.Design b)).length:=Zl2 (k:Int) (Zw (Zj.Design b)) 0;simp only[ZBY];rw[if_pos (show (k:Int)<(((ZJY (Zw (Zj.Design b)) (Zj.Qg b) (ZHc nodes) k).length:Nat):Int) by rw[ZHY];omega),ZkH _ _ hf,Bq];refine JF (l:=Zhl (Zj.Design b) (k:Int)) (λi=>(((Zhl (Zj.Design b) (k:Int)).take i).map (λx=>ZHc nodes x.toNat),(i:Int),())) (λi x hx hi=>?_) ?_
  ·obtain ⟨j,p,hp,ex,hn,h2,hnth⟩:=ZFU (pl:=Zw (Zj.Design b)) hx
   have hj:=(List.getElem?_eq_some_iff.1 hp).1;have hnj:nodes[j]?=some (ZHc nodes j):=by
    unfold ZHc;grind
   simp only[ZC9,show (i:Int)<((Zhl (Zj.Design b) (k:Int)).length:Int) by omega,if_true,Zu,hx,Bq];have et:=Yy hx;subst ex;rw[Zu,hnj,Bq,Zd (by grind),Jb (show i<=1048576 by omega),et,List.map_append];rfl
  ·simp only[ZC9,Int.lt_irrefl,if_false,Zu,a1,Bq,Jb (show k<=1048576 by omega),Int.toNat_natCast,List.take_length]
   rw[<-a2];rfl) (by
  simp only[ZBY];rw[if_neg (show ¬(((Zj.Qg b).length:Nat):Int)<(((ZJY (Zw (Zj.Design b)) (Zj.Qg b) (ZHc nodes) (Zj.Qg b).length).length:Nat):Int) by rw[ZHY];omega),ZKw])
 rw[ZJ0] at this;exact this
theorem ZGa (b:Zj):ZHc (ZCb b)=ZAz b:=by
 funext k;unfold ZHc;by_cases hk:k<(Zw (Zj.Design b)).length
 ·rw[ZEu hk];rfl
 ·rw[List.getElem?_eq_none (by rw[ZDd];omega)]
  unfold ZAz;grind
theorem ZGg {b:Zj} (h:ZdN b) {k:Nat} {p:Pl} (hp:(Zw (Zj.Design b))[k]?=some p) (h2:p.2.2.2.1=false) {n v:Int} (hn:ZnY (Zj.Design b) n) :
  ZA7 (Zj.Library b,ZAE (Zj.Design b) p.1 p.2.1 n,Zj.Qg b,()) (ZsX Key (.int .i64) (ZB5 (Zw (Zj.Design b)) (ZAz b) (Zw (Zj.Design b)).length) (ZIP p) v)=some (moved b k p n v):=by
 have hM:=((ZEl (Zj.Design b) (ZAz b)).put hp v).set hp n;rw[<-ZAD hp n] at hM;have hwl:(Zj.Qg b).length<=1048576:=Zv (ZnM h.sm).2.2;have hn1:n<((Zj.Qg b).length:Int):=by rw[h.ok.2.1];have:=hn.2;omega
 exact ZEt (b:=(Zj.Library b,ZAE (Zj.Design b) p.1 p.2.1 n,Zj.Qg b,())) (h.ok.1.few.ZAE p.1 p.2.1 n) hM (by
  show ZFp (Zw (ZAE (Zj.Design b) p.1 p.2.1 n)) (Zj.Qg b).length;rw[ZAD hp];refine ZFp.set (λq hq hd=>?_) hn.1 hn1;have:=Zol h.ok.1 hq;rw[h.ok.2.1];exact ⟨this.1,by have:=this.2;omega⟩) hwl
theorem ZIm {b:Zj} (h:ZdN b) {k:Nat} {p:Pl} (hp:(Zw (Zj.Design b))[k]?=some p) (n v:Int) :
  ZBm (Zj.Library b,ZAE (Zj.Design b) p.1 p.2.1 n,Zj.Qg b,()) ((ZCb b).set k v)=some (moved b k p n v):=by
 have hk:=(List.getElem?_eq_some_iff.1 hp).1;have hf:=h.ok.1.few.ZAE p.1 p.2.1 n;have e:=ZEH (b:=(Zj.Library b,ZAE (Zj.Design b) p.1 p.2.1 n,Zj.Qg b,())) (nodes:=(ZCb b).set k v) hf (by
  show ((ZCb b).set k v).length=(Zw (ZAE (Zj.Design b) p.1 p.2.1 n)).length;rw[List.length_set,ZDd,ZAD hp,List.length_set]) (Zv (ZnM h.sm).2.2)
 rw[e];have e2:ZHc ((ZCb b).set k v)=mvN b k v:=by
  funext j;rw[ZHP (by rw[ZDd];exact hk),ZGa];rfl
 rw[e2];rfl
def stay (n:Nat):List Int:=(List.range n).map Int.ofNat
theorem ZIY (n:Nat):(stay n).length=n:=by unfold stay;rw[List.length_map,List.length_range]
theorem ZE7 {n:Nat} {p:Int} (h0:0<=p) (h1:p<(n:Int)):ZAQ (stay n) p=p:=by
 unfold ZAQ stay;rw[List.getElem?_map,List.getElem?_range (by omega)];show (p.toNat:Int)=p;omega
theorem ZHi {b:Zj} (hf:Few (Zj.Design b)):ZEF b=some (stay (Zw (Zj.Design b)).length):=by
 have hpl:=V9 hf;unfold ZEF;have:=JF (l:=Zw (Zj.Design b)) (ρ:=List Int) (λk=>(stay k,(k:Int),())) (step:=λv=>ZCT b v.1 v.2.1) (good:=stay (Zw (Zj.Design b)).length)
  (λk x hx hk=>by
   simp only[ZCT,QA _ hf,Bq,show (k:Int)<((Zw (Zj.Design b)).length:Int) from by omega,if_true,Jb (show k<=1048576 by omega)];rw[Zd (by rw[ZIY,List.length_singleton];omega)];unfold stay;rw[List.range_succ,List.map_append];rfl)
  (by simp only[ZCT,QA _ hf,Bq,Int.lt_irrefl,if_false])
 simpa[stay] using this
theorem ZGQ {n:Nat} {l:List Int} (h:Zna n l):ZI2 (stay n) l=l:=by
 unfold ZI2;refine (List.map_congr_left (g:=id) λx hx=>?_).trans (List.map_id l);have:=h.2 x hx;exact ZE7 this.1 (by omega)
theorem ZGL {α:Type} {f:α->α} {l:List α} (h:∀ x∈l,f x=x):l.map f=l:=(List.map_congr_left (g:=id) h).trans (List.map_id l)
theorem ZHO {n:Nat} {l:List Int} (h:Zna n l):LOk (stay n) l:=λk x hx=>by
 obtain ⟨h0,h1⟩:=ZIe h hx;rw[ZE7 h0 h1];exact h0
theorem ZHr {n:Nat} (hn:n<=100) {s:Zo} (h:ZH1 n s):∃ f,ZC7 (stay n) s=some (s,f):=by
 refine ⟨tr (ZDm (stay n) (Zo.Exceptions s)),(ZFW (ZIY n) h hn).trans ?_⟩;have hA:ZDm (stay n) (Zo.Exceptions s):=λe he=>⟨ZHO (h.excs e he).1,ZHO (h.excs e he).2.1,ZHO (h.excs e he).2.2⟩;rw[ZJy hA,ZGL (f:=ZIu (stay n)) (λc hc=>?_),ZGL (f:=ZE5 (stay n)) (l:=Zo.Zbb s) (λx hx=>?_),ZGL (f:=ZE5 (stay n)) (l:=Zo.Vp s) (λx hx=>?_),ZGL (f:=ZIs (stay n)) (λe he=>?_)]
 ·unfold ZIs
  rw[ZGQ (h.excs e he).1,ZGQ (h.excs e he).2.1,ZGQ (h.excs e he).2.2]
 ·unfold ZE5
  rw[ZE7 (h.outs x hx).1 (h.outs x hx).2]
 ·unfold ZE5
  rw[ZE7 (h.ins x hx).1 (h.ins x hx).2]
 ·unfold ZIu
  rw[ZE7 (h.clocks c hc).1 (h.clocks c hc).2]
theorem ZFB {n:Nat} (hn:n<=100) {s:Zo} (h:ZH1 n s):ZDg s=some s:=by
 obtain ⟨h1,h2,h3,h4,h5⟩:=h.lens;unfold ZDg ZA3 ZAF ZAW;rw[Zd (by rw[List.length_nil];omega),Bq,Zd (by rw[List.length_nil];omega),Bq,Zd (by rw[List.length_nil];omega),Bq,Zd (by rw[List.length_nil];omega),Bq];simp only[List.nil_append];have:=JF (l:=Zo.Exceptions s) (ρ:=Zo) (λk=>((k:Int),(Zo.Exceptions s).take k,())) (step:=λv=>ZBL s (Zo.Yk s) (Zo.Zbb s) (Zo.Vp s) (Zo.X5 s) v.1 v.2.1) (good:=s)
  (λk x hx hk=>by
   obtain ⟨p1,p2,p3⟩:=h.excs x (List.mem_of_getElem? hx);have q1:=p1.1;have q2:=p2.1;have q3:=p3.1;simp only[ZBL,show (k:Int)<((Zo.Exceptions s).length:Int) from by omega,if_true,Zu,hx,Bq,ZBN (Ze.From x) (by omega),ZBN (Ze.Through x) (by omega),ZBN (Ze.To x) (by omega),Jb (show k<=1048576 by omega)];rw[Zd (by rw[List.length_take,List.length_singleton];omega),Yy hx])
  (by simp only[ZBL,Int.lt_irrefl,if_false,List.take_length])
 simpa using this
def ZES:Zo:=([],[],[],[],[],())
abbrev ZK4:Zj:=((([]:List Zk),()),(([]:List Zl),([]:List (List UInt8)),([]:List Ye),()),([]:List Zx),())
theorem ZIX:sm Xz ZK4:=by
 simp only[sm,and_true];simp
theorem ZI9:sm Vh ZES:=by
 unfold ZES;simp only[sm,and_true];simp
theorem ZJI {b:Zj} (h:ZdN b):ZFp (Zw (Zj.Design b)) (Zj.Qg b).length:=λq hq _=>by
 have:=Zol h.ok.1 hq;rw[h.ok.2.1];exact ⟨this.1,by have:=this.2;omega⟩
theorem ZHD (pl:List Pl) (ws:List Zx) (nd:Nat->Int) {w w':Zx} (h:∀ l,ZB6 w l=ZB6 w' l):ZBt pl (ws++[w]) nd=ZBt pl (ws++[w']) nd:=by
 unfold ZBt;rw[ZmP,ZmP];simp only[cat,h]
theorem ZFt {b:Zj} {e:ZgL} (h:ZCe b e) (k2:ZgL.Kind e=2) (hs:sm .str (ZgL.Name e)) {p:Pl} (hp:ZCd b e p) (hd:p.2.2.2.1=false):ZCZ b e=some (ZBk b e (ZgL.Place e).toNat p):=by
 have hB:=h.blk;have hf:=hB.ok.1.few;have h14:=hf.insts;have h30:=hB.ok.1.2.1.2.1;have hwn:=hB.ok.2.1;have hR:=ZEo h k2 hs hp;have hpk:=ZDr (e:=e) (q:=p) hB hp.2;have hM0:=ZEl (Zj.Design b) (ZAz b);have hv:ZrG Key (.int .i64) (ZB5 (Zw (Zj.Design b)) (ZAz b) (Zw (Zj.Design b)).length) (p.1,p.2.1,())=some (ZAz b (ZgL.Place e).toNat):=hM0 _ p hp.2 hd;have hM1:=hM0.add (x:=ZEk b e p) (s:=ZgL.Name e) rfl (by omega) (ZAz b (ZgL.Place e).toNat);have hM2:=(hM1.put hpk 0).set hpk ((Zg.X7 (Zj.Design b)).length:Int);rw[<-ZAD hpk,<-ZDX hp.2] at hM2;have hN:=ZJI hR;have hl:(Zj.Qg (ZBk b e (ZgL.Place e).toNat p)).length=(Zj.Qg b++[ZH7]).length:=ZD9 _ _ _;rw[hl] at hN;have hC:=ZEt (b:=(Zj.Library b,ZDS b e p,Zj.Qg b++[ZH7],())) hR.ok.1.few hM2 hN (by
  grind)
 have hS:=ZDT (b:=(Zj.Library b,ZAJ (Zj.Design b) (ZEk b e p) (ZgL.Name e),Zj.Qg b++[ZH7],())) hpk ((Zg.X7 (Zj.Design b)).length:Int);have eS:ZAE (Zj.Design ((Zj.Library b,ZAJ (Zj.Design b) (ZEk b e p) (ZgL.Name e),Zj.Qg b++[ZH7],()):Zj)) p.1 p.2.1 ((Zg.X7 (Zj.Design b)).length:Int)=ZDS b e p:=(ZDX hp.2).symm;rw[eS] at hS;unfold ZCZ;rw[ZB3 hB,Bq,Q5 _ hf,Bq,hp.at,Bq,
  show Zbo (Zg.X7 (Zj.Design b))=some ((Zg.X7 (Zj.Design b)).length:Int) from rfl,Bq,
  show ZAX (Zg.Instances (Zj.Design b))=some ((Zg.Instances (Zj.Design b)).length:Int) from rfl,Bq,
  Zd (by grind),Zd (by grind),Zd (by grind)]
 refine Eq.trans (congrArg (λo=>Option.bind o _) hS) ?_;rw[Bq];have e3:Option.getD (ZrG Zui (Ty.int IntKind.i64) (ZB5 (Zw (Zj.Design b)) (ZAz b) (Zw (Zj.Design b)).length) (YA.instance p,YA.pin p,())) (0:Int)=ZAz b (ZgL.Place e).toNat:=by
  grind
 rw[e3];refine Eq.trans (congrArg (λo=>Option.bind o _) hC) ?_;rfl
theorem ZJH {b:Zj} {k:Nat} (hk:k<(Zw (Zj.Design b)).length) (v:Int) (hv:v=ZAz b k) :
  ZHc (((ZCb b).take (ZAv (Zj.Design b))++[v,0]++(ZCb b).drop (ZAv (Zj.Design b))).set (ZFv b k) 0)=ZIr b k:=by
 have h2:=ZC1 (Zj.Design b);have hm:ZAv (Zj.Design b)<=(ZCb b).length:=by rw[ZDd];omega
 funext j;rw[ZHP (by
  rw[List.length_append,List.length_append,List.length_take,List.length_drop,ZDd];unfold ZFv;grind),ZKk hm,ZGa,hv]
 rfl
theorem ZHq {b:Zj} {e:ZgL} (h:ZCe b e) (k2:ZgL.Kind e=2) (hs:sm .str (ZgL.Name e)) {p:Pl} (hp:ZCd b e p) (hd:p.2.2.2.1=false):ZCx b e=some (ZBk b e (ZgL.Place e).toNat p):=by
 have hB:=h.blk;have hf:=hB.ok.1.few;have hpl:=V9 hf;have h14:=hf.insts;have h8:=hf.ports;have h30:=hB.ok.1.2.1.2.1;have hwn:=hB.ok.2.1;have hk:=(List.getElem?_eq_some_iff.1 hp.2).1;have h0:=hp.1;have h2:=ZC1 (Zj.Design b);have hR:=ZEo h k2 hs hp;have hW:Wq (((ZCb b).length:Int)-((Zg.Xb (Zj.Design b)).length:Int))=(ZAv (Zj.Design b):Int):=by
  rw[ZDd,Zar (by omega) (by omega)];omega
 have hdr:List.take ((ZCb b).length-ZAv (Zj.Design b)) (List.drop (ZAv (Zj.Design b)) (ZCb b))=List.drop (ZAv (Zj.Design b)) (ZCb b):=List.take_of_length_le (by grind);have hlump:ZBy 1 0=some (([-1],[0],[0],[0],()):Zx):=by
  unfold ZBy;rw[Zd (by omega),Zd (by omega),Zd (by omega),Zd (by omega)];rfl
 have hln:((ZCb b).take (ZAv (Zj.Design b))++[ZAz b (ZgL.Place e).toNat,0]++(ZCb b).drop (ZAv (Zj.Design b))).length=(Zw (Zj.Design b)).length+2:=by
  rw[List.length_append,List.length_append,List.length_take,List.length_drop,ZDd];grind
 have hbk:ZFv b (ZgL.Place e).toNat<(Zw (Zj.Design b)).length+2:=by
  unfold ZFv;split<;>omega
 have hpl2:(Zw (ZDS b e p)).length=(Zw (Zj.Design b)).length+2:=by
  have h3:=ZC1 (ZDS b e p);rw[ZDX hp.2,ZAD (ZDr (e:=e) (q:=p) hB hp.2),List.length_set];rw[ZEm,List.length_append,List.length_append,ZAY,ZIf,h2];unfold ZAv ZEk;grind
 have hA:=ZEH (b:=(Zj.Library b,ZDS b e p,Zj.Qg b++[([-1],[0],[0],[0],())],())) (nodes:=((ZCb b).take (ZAv (Zj.Design b))++[ZAz b (ZgL.Place e).toNat,0]++(ZCb b).drop (ZAv (Zj.Design b))).set (ZFv b (ZgL.Place e).toNat) 0) hR.ok.1.few (by
  grind) (by
  grind)
 rw[ZJH hk _ rfl] at hA;have hA2:ZBm (Zj.Library b,ZDS b e p,Zj.Qg b++[([-1],[0],[0],[0],())],()) ((((ZCb b).take (ZAv (Zj.Design b))++[ZAz b (ZgL.Place e).toNat,0]++(ZCb b).drop (ZAv (Zj.Design b)))).set (ZFv b (ZgL.Place e).toNat) 0)=some (ZBk b e (ZgL.Place e).toNat p):=by
  rw[hA];show some (Zj.Library b,ZDS b e p,ZBt (Zw (ZDS b e p)) (Zj.Qg b++[([-1],[0],[0],[0],())]) (ZIr b (ZgL.Place e).toNat),())=_;rw[ZHD _ _ _ (w:=([-1],[0],[0],[0],())) (w':=ZH7) (λl=>rfl)];rfl
 unfold ZCx;rw[QA _ hf,Bq,hp.at,Bq,ZCv hB,Bq,Zbc hp.1 (ZEu hk),Bq,hW];simp only[Int.toNat_natCast,Int.toNat_zero,Nat.sub_zero,List.drop_zero,hdr];have hci:(Zg.Instances (ZAE (Zj.Design b) p.1 p.2.1 ((Zj.Qg b).length:Int))).length=(Zg.Instances (Zj.Design b)).length:=ZAA;have hcn:(Zg.X7 (ZAE (Zj.Design b) p.1 p.2.1 ((Zj.Qg b).length:Int))).length=(Zg.X7 (Zj.Design b)).length:=by rw[ZAO]
 have hl1:(List.take (ZAv (Zj.Design b)) (ZCb b)).length=ZAv (Zj.Design b):=by grind
 have hl2:(List.drop (ZAv (Zj.Design b)) (ZCb b)).length=(Zg.Xb (Zj.Design b)).length:=by grind
 rw[Zd (by omega),Zd (by rw[ZDd];omega),ZDy _ (by omega),Bq,
  Zd (by grind),Zd (by omega),Zd (by grind),
  ZEv hp.2,Bq]
 have hx:∀ (i:Nat),i<(Zw (Zj.Design b)).length+2->∃ y,((ZCb b).take (ZAv (Zj.Design b))++[ZAz b (ZgL.Place e).toNat,0]++(ZCb b).drop (ZAv (Zj.Design b)))[i]?=some y:=λi hi=>⟨_,List.getElem?_eq_getElem (by rw[hln];exact hi)⟩;have hD:((Zg.Instances (ZAE (Zj.Design b) p.1 p.2.1 ((Zj.Qg b).length:Int))++[(ZgL.Name e,ZgL.Cell e,[Ya.net p,((Zj.Qg b).length:Int)],())],Zg.X7 (ZAE (Zj.Design b) p.1 p.2.1 ((Zj.Qg b).length:Int))++[ZgL.Name e],(ZAE (Zj.Design b) p.1 p.2.1 ((Zj.Qg b).length:Int)).snd.snd):Zg)=ZDS b e p:=by
  rw[hwn];rfl
 by_cases hc:ZAv (Zj.Design b)<=(ZgL.Place e).toNat
 ·have hbk2:ZFv b (ZgL.Place e).toNat=(ZgL.Place e).toNat+2:=by unfold ZFv;grind
  obtain ⟨y,hy⟩:=hx ((ZgL.Place e).toNat+2) (by omega);rw[if_pos (by omega),Zar (n:=ZgL.Place e+2) (by omega) (by omega),show ZgL.Place e+2=(((ZgL.Place e).toNat+2:Nat):Int) by omega,Zu,hy,Bq,
   Zd (by grind),Zd (by grind),hlump,Bq,Zd (by grind),Int.toNat_natCast,<-hbk2,hD]
  grind
 ·have hbk2:ZFv b (ZgL.Place e).toNat=(ZgL.Place e).toNat:=by unfold ZFv;grind
  obtain ⟨y,hy⟩:=hx (ZgL.Place e).toNat (by omega);rw[if_neg (by omega),Zbc hp.1 hy,Bq,
   Zd (by grind),Zd (by grind),hlump,Bq,Zd (by grind),hD]
  grind
theorem ZGJ {b:Zj} (h:ZdN b) (hL:ZEI b) {k:Nat} {p:Pl} {m:Int} (hs:Zhl (Zj.Design b) (((Zg.X7 (Zj.Design b)).length:Int)-1)=[(k:Int)]) (hp:(Zw (Zj.Design b))[k]?=some p) (hpi:p.1≠((Zg.Instances (Zj.Design b)).length:Int)-1)
  (hm:∀ x,(Zg.Instances (Zj.Design b))[(Zg.Instances (Zj.Design b)).length-1]?=some x->atI (Zl.X7 x) 0=some m):ZDU b=some (ZAP b k p m):=by
 have hR:=ZEZ h hL hs hp hpi hm;obtain ⟨hn,x,hx,hl2⟩:=hL.two;have hmx:=hm x hx;have hf:=h.ok.1.few;have hpl:=V9 hf;have h14:=hf.insts;have h8:=hf.ports;have h30:=h.ok.1.2.1.2.1;have hwn:=h.ok.2.1;have hk:=(List.getElem?_eq_some_iff.1 hp).1;have h2:=ZC1 (Zj.Design b);have hi2:=ZDZ hn hx hl2;have hpos:1<=(Zg.X7 (Zj.Design b)).length:=by
  have:=Zol h.ok.1 (List.mem_of_getElem? hp);unfold ZnY at this;omega
 have hx2:atI (Zg.Instances (Zj.Design b)) (((Zg.Instances (Zj.Design b)).length:Int)-1)=some x:=Zbc (by omega) (by simp_all);have t1:Int.toNat (((Zg.Instances (Zj.Design b)).length:Int)-1)=(Zg.Instances (Zj.Design b)).length-1:=by omega
 have hset:((List.set (Zg.Instances (Zj.Design b)) ((Zg.Instances (Zj.Design b)).length-1) x,(Zj.Design b).snd):Zg)=Zj.Design b:=by rw[ZkQ hx]
 have hW1:Wq (((Zj.Qg b).length:Int)-1)=(((Zj.Qg b).length-1:Nat):Int):=by rw[Zar (by omega) (by omega)];omega
 have hW2:Wq (((ZCb b).length:Int)-((Zg.Xb (Zj.Design b)).length:Int))=(ZAv (Zj.Design b):Int):=by rw[ZDd,Zar (by omega) (by omega)];omega
 have hW3:Wq ((ZAv (Zj.Design b):Int)-2)=((ZAv (Zj.Design b)-2:Nat):Int):=by rw[Zar (by omega) (by omega)];omega
 have hW4:Wq (((Zg.Instances (Zj.Design b)).length:Int)-1)=(((Zg.Instances (Zj.Design b)).length-1:Nat):Int):=by rw[Zar (by omega) (by omega)];omega
 have hsk:Zc8 (Zj.Design b) (((Zj.Qg b).length-1:Nat):Int)=some [(k:Int)]:=by
  rw[ZkH _ _ hf,show (((Zj.Qg b).length-1:Nat):Int)=((Zg.X7 (Zj.Design b)).length:Int)-1 by omega,hs]
 have hx3:atI (Zg.Instances (Zj.Design b)) (((Zg.Instances (Zj.Design b)).length-1:Nat):Int)=some x:=by grind
 have hls:(List.set (ZCb b) k (ZAz b (ZAv (Zj.Design b)-2))).length=(Zw (Zj.Design b)).length:=by rw[List.length_set,ZDd]
 have hdr:List.take ((List.set (ZCb b) k (ZAz b (ZAv (Zj.Design b)-2))).length-ZAv (Zj.Design b)) (List.drop (ZAv (Zj.Design b)) (List.set (ZCb b) k (ZAz b (ZAv (Zj.Design b)-2))))=List.drop (ZAv (Zj.Design b)) (List.set (ZCb b) k (ZAz b (ZAv (Zj.Design b)-2))):=List.take_of_length_le (by grind);have hci:(Zg.Instances (ZAE (Zj.Design b) p.1 p.2.1 m)).length=(Zg.Instances (Zj.Design b)).length:=ZAA;have hcn:(Zg.X7 (ZAE (Zj.Design b) p.1 p.2.1 m)).length=(Zg.X7 (Zj.Design b)).length:=by rw[ZAO]
 have hl1:(List.take (ZAv (Zj.Design b)-2) (List.set (ZCb b) k (ZAz b (ZAv (Zj.Design b)-2)))).length=ZAv (Zj.Design b)-2:=by grind
 have hl3:(List.drop (ZAv (Zj.Design b)) (List.set (ZCb b) k (ZAz b (ZAv (Zj.Design b)-2)))).length=(Zg.Xb (Zj.Design b)).length:=by grind
 have hins:ZAv (unD b p m)=ZAv (Zj.Design b)-2:=by
  have hn2:0<(Zg.Instances (ZAE (Zj.Design b) p.1 p.2.1 m)).length:=by grind
  have hx4:(Zg.Instances (ZAE (Zj.Design b) p.1 p.2.1 m))[(Zg.Instances (ZAE (Zj.Design b) p.1 p.2.1 m)).length-1]?=some ((Zg.Instances (ZAE (Zj.Design b) p.1 p.2.1 m))[(Zg.Instances (ZAE (Zj.Design b) p.1 p.2.1 m)).length-1]'(by omega)):=List.getElem?_eq_getElem _;generalize (Zg.Instances (ZAE (Zj.Design b) p.1 p.2.1 m))[(Zg.Instances (ZAE (Zj.Design b) p.1 p.2.1 m)).length-1]'(by omega)=x' at hx4;obtain ⟨y,hy,_,_,hyl,_⟩:=ZDb hx4;rw[ZAA,hx] at hy;injection hy with hy
  have h5:=ZDZ hn2 hx4 (by rw[hyl,<-hy,hl2]);have h6:=ZDQ hp m;unfold unD;omega
 have hup:(Zw (unD b p m)).length=(Zw (Zj.Design b)).length-2:=by
  have h5:=ZC1 (unD b p m);have h6:(Zg.Xb (unD b p m)).length=(Zg.Xb (Zj.Design b)).length:=ZEJ;omega
 have hA:=ZEH (b:=(Zj.Library b,unD b p m,(Zj.Qg b).take ((Zj.Qg b).length-1),())) (nodes:=(ZCb b |>.set k (ZAz b (ZAv (Zj.Design b)-2))).take (ZAv (Zj.Design b)-2)++(ZCb b |>.set k (ZAz b (ZAv (Zj.Design b)-2))).drop (ZAv (Zj.Design b))) hR.ok.1.few (by
  grind) (by
  grind)
 have hnd:ZHc ((ZCb b |>.set k (ZAz b (ZAv (Zj.Design b)-2))).take (ZAv (Zj.Design b)-2)++(ZCb b |>.set k (ZAz b (ZAv (Zj.Design b)-2))).drop (ZAv (Zj.Design b)))=unN b k:=by
  funext j;have:=ZKj (l:=(ZCb b).set k (ZAz b (ZAv (Zj.Design b)-2))) (m:=ZAv (Zj.Design b)-2) (by omega) j;rw[show ZAv (Zj.Design b)-2+2=ZAv (Zj.Design b) by omega] at this;rw[this];unfold unN;congr 1;funext i;rw[ZHP (by grind),ZGa];rfl
 rw[hnd] at hA;have hD:((List.take ((Zg.Instances (Zj.Design b)).length-1) (Zg.Instances (ZAE (Zj.Design b) p.1 p.2.1 m)),List.take ((Zj.Qg b).length-1) (Zg.X7 (ZAE (Zj.Design b) p.1 p.2.1 m)),(ZAE (Zj.Design b) p.1 p.2.1 m).snd.snd):Zg)=unD b p m:=by
  unfold unD ZAy;grind
 unfold ZDU;rw[ZCv h,Bq,hW1,hsk,Bq,show atI [(k:Int)] 0=some (k:Int) from rfl,Bq,hW2,hW3,Zu,ZEu (by omega),Bq,Zu,ZEu hk,Bq,hW4,hx3,Bq,
  show x.snd.snd.fst=Zl.X7 x from rfl,hmx,Bq]
 simp only[Int.toNat_natCast,Int.toNat_zero,Nat.sub_zero,List.drop_zero];rw[hset,QA _ hf,Bq,Zu,hp,Bq,ZEv hp,Bq,Zd (by omega),Zd (by rw[hls];omega),ZDy _ (by omega),Bq,
  Zd (by omega),Zd (by rw[hls];omega),Zd (by omega),hdr,Zd (by rw[hl1,hl3];omega),Zd (by omega),Zd (by rw[hci];omega),Zd (by omega),Zd (by rw[hcn];omega),Zd (by omega),hD]
 refine Eq.trans (congrArg (λo=>Option.bind o _) hA) ?_;rfl
def Lens (b:Zj) (e:ZgL) (r:Zj):Prop:=(Zw (Zj.Design r)).length+(if ZgL.Kind e=3 then 2 else 0)=(Zw (Zj.Design b)).length+(if ZgL.Kind e=2 then 2 else 0)
theorem ZJf (d:Zg) (x:Zl) (s:List UInt8):(Zw (ZAJ d x s)).length=(Zw d).length+(Zl.X7 x).length:=by
 rw[ZEm,List.length_append,List.length_append,ZAY];unfold Zw;grind
theorem ZKF {b:Zj} (h:ZdN b) {e:ZgL} {k:Nat} {p:Pl} (hp:(Zw (Zj.Design b))[k]?=some p):(Zw (ZDS b e p)).length=(Zw (Zj.Design b)).length+2:=by
 rw[ZDX hp,ZAD (ZDr h hp),List.length_set,ZJf];rfl
theorem ZIA {b:Zj} {e:ZgL} {r:Zj} (h2:ZgL.Kind e≠2) (h3:ZgL.Kind e≠3) (h:(Zw (Zj.Design r)).length=(Zw (Zj.Design b)).length):Lens b e r:=by
 unfold Lens;grind
theorem ZJi {b:Zj} {e:ZgL} (h:ZCe b e) (he:sm Zug e):∃ r,ZAp e b=some r/\ZCj b e=some r/\ZdN r/\Zj.Library r=Zj.Library b/\Lens b e r:=by
 have hB:=h.blk;have hf:=hB.ok.1.few;have hwn:=hB.ok.2.1;obtain ⟨b1,b2,b3⟩:=ZnM hB.sm;unfold ZAp ZCj;rw[ZAR _ hB.sm,Bq,ZHk _ hB.sm,Bq,QA _ hf,Bq];by_cases k1:ZgL.Kind e=1
 ·obtain ⟨p,x,c,c2,hp,h0,hd,hx,hc,hc2,ha⟩:=h.poss.1 k1
  obtain ⟨_,hcr⟩:=h.range.1 (.inl k1);have hx2:(Zg.Instances (Zj.Design b))[p.1.toNat]?=some x:=by
   unfold atI at hx;grind
  obtain ⟨⟨hxc,_⟩,_,_⟩:=hB.ok.1.2.2.1 x (List.mem_of_getElem? hx2);have hc3:(Zt.Cells (Zj.Library b))[(Zl.Cell x).toNat]?=some c:=by
   unfold atI at hc;grind
  have hc4:(Zt.Cells (Zj.Library b))[(ZgL.Cell e).toNat]?=some c2:=by
   unfold atI at hc2;grind
  have hR:=ZHB hB h0 hx2 hc3 hc4 hcr (ZH5 (ZeM (Ztf b1) hc3) (ZeM (Ztf b1) hc4) ha);rw[if_pos k1,if_pos k1,Q5 _ hf,Bq,hp.at,Bq];have e1:YA.instance p=p.1:=rfl;have e2:Ya.instance p=p.1:=rfl;simp only[e1,e2,hx,Bq];refine ⟨ZDa b p.1 (ZgL.Cell e),?_,?_,hR,rfl,ZIA (by omega) (by omega) ?_⟩
  ·unfold ZDa;rw[hx2]
  ·unfold ZDa;rw[hx2]
  ·unfold ZDa;rw[hx2];exact congrArg List.length (ZDW hx2 _)
 rw[if_neg k1,if_neg k1];by_cases k2:ZgL.Kind e=2
 ·obtain ⟨p,c,hp,hd,_⟩:=h.poss.2.1 k2
  have hs:=(ZEN he).1;rw[if_pos k2,if_pos k2,ZFt h k2 hs hp hd,ZHq h k2 hs hp hd];exact ⟨_,rfl,rfl,ZEo h k2 hs hp,rfl,by unfold Lens;rw[if_neg (by omega),if_pos k2];exact ZKF hB hp.2⟩
 rw[if_neg k2,if_neg k2];by_cases k3:ZgL.Kind e=3
 ·have hL:=h.poss.2.2.1 k3
  obtain ⟨k,p,m,v,hs,hp,hpi,hm,hv,hun⟩:=ZCs hB hL;have hR:=ZEZ hB hL hs hp hpi hm;rw[if_pos k3,if_pos k3,hun,ZGJ hB hL hs hp hpi hm];obtain ⟨hn,x,hx,hl2⟩:=hL.two;have hn2:0<(Zg.Instances (ZAE (Zj.Design b) p.1 p.2.1 m)).length:=by rw[ZAA];exact hn
  have hx4:(Zg.Instances (ZAE (Zj.Design b) p.1 p.2.1 m))[(Zg.Instances (ZAE (Zj.Design b) p.1 p.2.1 m)).length-1]?=some ((Zg.Instances (ZAE (Zj.Design b) p.1 p.2.1 m))[(Zg.Instances (ZAE (Zj.Design b) p.1 p.2.1 m)).length-1]'(by omega)):=List.getElem?_eq_getElem _;generalize (Zg.Instances (ZAE (Zj.Design b) p.1 p.2.1 m))[(Zg.Instances (ZAE (Zj.Design b) p.1 p.2.1 m)).length-1]'(by omega)=x' at hx4;obtain ⟨y,hy,_,_,hyl,_⟩:=ZDb hx4;rw[ZAA,hx] at hy;injection hy with hy
  have h5:=ZDZ hn2 hx4 (by rw[hyl,<-hy,hl2]);have h6:=ZDQ hp m;have hins:ZAv (unD b p m)=ZAv (Zj.Design b)-2:=by unfold unD;omega
  refine ⟨ZAP b k p m,by rw[hins,hv];rfl,rfl,hR,rfl,?_⟩;have h7:=congrArg List.length (ZEn (s:=[]) hn2 hx4);rw[ZJf,hyl,<-hy,hl2,ZAD hp,List.length_set] at h7;unfold Lens;rw[if_pos k3,if_neg (by omega)];exact h7.symm
 rw[if_neg k3,if_neg k3];by_cases k4:ZgL.Kind e=4
 ·obtain ⟨p,hp,hd,hne⟩:=h.poss.2.2.2.1 k4
  obtain ⟨_,hn,w,hw,hnode⟩:=h.range.2.1 k4;have hk:=(List.getElem?_eq_some_iff.1 hp.2).1;have hR:=ZIR hB hp.2 hd hn (v:=ZgL.Node e) (λw' hw'=>by grind);rw[if_pos k4,if_pos k4,ZB3 hB,Bq,Q5 _ hf,Bq,hp.at,Bq,ZCv hB,Bq,Zbc hp.1 (ZEu hk),Bq,Bq,ZEv hp.2,Bq,
   show (YA.instance p,YA.pin p,())=(p.1,p.2.1,()) from rfl,ZDT hp.2,Bq]
  refine ⟨moved b (ZgL.Place e).toNat p (ZgL.Net e) (ZgL.Node e),?_,?_,hR,rfl,ZIA k2 k3 (by show (Zw (ZAE _ _ _ _)).length=_;rw[ZAD hp.2,List.length_set])⟩
  ·exact congrArg (λo=>Option.bind o λconnect0=>some connect0) (ZGg hB hp.2 hd hn (v:=ZgL.Node e))
  ·exact congrArg (λo=>Option.bind o λl08Attach0=>some l08Attach0) (ZIm hB hp.2 (ZgL.Net e) (ZgL.Node e))
 ·have k5:ZgL.Kind e=5:=by have:=h.blank;unfold Blank at this;omega
  have hn:=h.range.2.2 k5;obtain ⟨w,hw1,hw2,_⟩:=ZDO hB hn;have hsw:=(ZEN he).2;have hR:=ZIn hB hn (h.poss.2.2.2.2 k5) hsw;rw[if_neg k4,if_neg k4,if_pos k5,if_pos k5,ZBR _ hsw,Bq,ZCX _ hsw,Bq,hw2,Bq];exact ⟨ZIZ b (ZgL.Net e) (ZgL.ZAj e),rfl,rfl,hR,rfl,ZIA k2 k3 rfl⟩
theorem ZJ8 {b:Zj} {e:ZgL} (h:ZCe b e) (he:sm Zug e):∃ r,ZAp e b=some r/\ZCj b e=some r/\ZdN r/\Zj.Library r=Zj.Library b:=by
 obtain ⟨r,h1,h2,h3,h4,_⟩:=ZJi h he;grind
theorem ZHF {α:Type} {L:List α} {j:Nat} {y:α} (h:j<L.length):atI (List.set L j y) (j:Int)=some y:=by
 rw[Zu,List.getElem?_set_self h]
theorem ZFy (b:Zj) (e:ZgL) (hb:sm Xz b) (he:sm Zug e):∃ c,ZBl b e=some c/\ZA0 b e=some c/\(c=0->ZCe b e):=by
 unfold ZBl;rw[Zlh b hb,Bq];by_cases hB:ZhJ b
 ·obtain ⟨c,h1,h2,h3⟩:=ZDY ⟨hB,hb⟩ e he
  rw[if_pos (Yf hB),h1];exact ⟨c,rfl,h2,h3⟩
 ·rw[if_neg (λq=>hB ((QM _).1 q))]
  refine ⟨1,rfl,?_,λq=>by cases q⟩;unfold ZA0;rw[Zgs b hb,Bq,if_neg (λq=>hB ((QM _).1 q))]
theorem ZGN:∀ (l:List Ye) (m:Nat),(cat Zi7 m l).length=l.length
 | [],_=>rfl
 | x::r,m=>by simp only[cat,List.length_append,Zi7,List.length_nil,ZGN r,List.length_cons];omega
theorem ZHK {i:Nat} {x:Zl} {p:Pl} (hp:p∈Zhx i x):p.1=(i:Int):=by
 unfold Zhx at hp;obtain ⟨j,n,hj,hn⟩:=ZdH.1 hp;grind
theorem ZKf (i:Nat) (x:Zl):(Zhx i x).length=(Zl.X7 x).length:=by
 have:∀ (l:List Int) (m:Nat) (c:Int),(cat (λj n=>[((i:Int),(j:Int),n,decide ((j:Int)=c),())]) m l).length=l.length:=by
  intro l;induction l with
  | nil=>intro m c;rfl
  | cons y r ih=>intro m c;simp only[cat,List.length_append,List.length_nil,ih,List.length_cons];omega
 unfold Zhx;exact this _ _ _
theorem ZEK {d:Zg} {k:Nat} {p:Pl} (hp:(Zw d)[k]?=some p):(p.1<0<->(Zw d).length<=k+(Zg.Xb d).length)/\-1<=p.1:=by
 have hl:(Zw d).length=(cat Zhx 0 (Zg.Instances d)).length+(Zg.Xb d).length:=by unfold Zw;rw[List.length_append,ZGN]
 by_cases hk:k<(cat Zhx 0 (Zg.Instances d)).length
 ·have h1:p∈cat Zhx 0 (Zg.Instances d):=by
   unfold Zw at hp;grind
  obtain ⟨i,z,hi,hz⟩:=ZdH.1 h1;have:=ZHK hz;omega
 ·have h1:p∈cat Zi7 0 (Zg.Xb d):=by
   unfold Zw at hp;grind
  obtain ⟨j,q,hj,hq⟩:=ZdH.1 h1;simp only[Zi7,List.mem_singleton] at hq;grind
theorem ZHz {d:Zg} {x:Zl} (hn:0<(Zg.Instances d).length) (hx:(Zg.Instances d)[(Zg.Instances d).length-1]?=some x) {k:Nat} {p:Pl} (hp:(Zw d)[k]?=some p) (h0:0<=p.1) :
  p.1=((Zg.Instances d).length:Int)-1<->(Zw d).length<=k+(Zg.Xb d).length+(Zl.X7 x).length:=by
 have hl:(Zw d).length=(cat Zhx 0 (Zg.Instances d)).length+(Zg.Xb d).length:=by unfold Zw;rw[List.length_append,ZGN]
 have hs:cat Zhx 0 (Zg.Instances d)=cat Zhx 0 ((Zg.Instances d).take ((Zg.Instances d).length-1))++Zhx ((Zg.Instances d).length-1) x:=by
  rw[<-Zsq hx,show (Zg.Instances d).length-1+1=(Zg.Instances d).length by omega,List.take_length]
 have hsl:=congrArg List.length hs;rw[List.length_append,ZKf] at hsl;have hk:k<(cat Zhx 0 (Zg.Instances d)).length:=by
  have:=(ZEK hp).1;omega
 have h1:(cat Zhx 0 (Zg.Instances d))[k]?=some p:=by
  unfold Zw at hp;grind
 rw[hs] at h1;by_cases hk2:k<(cat Zhx 0 ((Zg.Instances d).take ((Zg.Instances d).length-1))).length
 ·rw[List.getElem?_append_left hk2] at h1
  obtain ⟨i,z,hi,hz⟩:=ZdH.1 (List.mem_of_getElem? h1);have e:=ZHK hz;grind
 ·rw[List.getElem?_append_right (by omega)] at h1
  have e:=ZHK (List.mem_of_getElem? h1);omega
noncomputable def ZFJ (b:Zj) (e:ZgL) (k:Nat) (p:Pl):Int :=
 if ZgL.Kind e=2/\p.1<0 then (k:Int)+2
 else if ZgL.Kind e=3/\p.1<0 then (k:Int)-2
 else if ZgL.Kind e=3/\p.1=((Zg.Instances (Zj.Design b)).length:Int)-1 then -1
 else (k:Int)
theorem ZH2 {b:Zj} {e:ZgL} {k:Nat} {p:Pl} (k2:ZgL.Kind e=2) (q1:p.1<0):ZFJ b e k p=(k:Int)+2:=by unfold ZFJ;grind
theorem ZHt {b:Zj} {e:ZgL} {k:Nat} {p:Pl} (k3:ZgL.Kind e=3) (q1:p.1<0):ZFJ b e k p=(k:Int)-2:=by unfold ZFJ;grind
theorem ZIL {b:Zj} {e:ZgL} {k:Nat} {p:Pl} (k3:ZgL.Kind e=3) (q1:¬p.1<0) (q2:p.1=((Zg.Instances (Zj.Design b)).length:Int)-1):ZFJ b e k p=-1:=by unfold ZFJ;grind
theorem ZH3 {b:Zj} {e:ZgL} {k:Nat} {p:Pl} (k3:ZgL.Kind e=3) (q1:¬p.1<0) (q2:¬p.1=((Zg.Instances (Zj.Design b)).length:Int)-1):ZFJ b e k p=(k:Int):=by unfold ZFJ;grind
theorem ZE0 {b:Zj} {e:ZgL} {k:Nat} {p:Pl} (k3:¬ZgL.Kind e=3) (q1:¬(ZgL.Kind e=2/\p.1<0)):ZFJ b e k p=(k:Int):=by unfold ZFJ;grind
noncomputable def after (b:Zj) (e:ZgL):List Int:=cat (λk p=>[ZFJ b e k p]) 0 (Zw (Zj.Design b))
theorem ZGK {α β:Type} {g:Nat->α->β}:∀ (l:List α) (m:Nat),(cat (λj n=>[g j n]) m l).length=l.length
 | [],_=>rfl
 | x::r,m=>by simp only[cat,List.length_append,List.length_nil,ZGK r,List.length_cons];omega
theorem ZFD {b:Zj} {e:ZgL} (h:ZCe b e):ZBP e b=some (after b e):=by
 have hD:=h.blk.ok.1;have hf:=hD.few;have hpl:=V9 hf;have h14:=hf.insts;unfold ZBP;rw[show ZAX (Zg.Instances (Zj.Design b))=some ((Zg.Instances (Zj.Design b)).length:Int) from rfl,Q5 _ hf,Bq,Bq];have:=Za3 (l:=Zw (Zj.Design b)) (ρ:=List Int) (λk p=>[ZFJ b e k p]) [] (step:=λv=>ZBa e ((Zg.Instances (Zj.Design b)).length:Int) (Zw (Zj.Design b)) v.1 v.2.1) (good:=after b e)
  (λk p hp hk=>by
   have hl:=ZGK (g:=ZFJ b e) ((Zw (Zj.Design b)).take k) 0;rw[List.length_take] at hl;have hpp:=ZEK hp;have hg:∀ n:Int,(([]++cat (λk p=>[ZFJ b e k p]) 0 ((Zw (Zj.Design b)).take k)).length+[n].length)*8<=140737488355328:=λn=>by
    grind
   simp only[ZBa,show (k:Int)<((Zw (Zj.Design b)).length:Int) from by omega,if_true,Zu,hp,Bq,Zd (hg _),Jb (show k<=1048576 by omega),Zar (show (-9223372036854775808:Int)<=(k:Int)+2 by omega) (by omega),Zar (show (-9223372036854775808:Int)<=(k:Int)-2 by omega) (by omega),Zar (show (-9223372036854775808:Int)<=((Zg.Instances (Zj.Design b)).length:Int)-1 by omega) (by omega),YA.instance];by_cases k2:ZgL.Kind e=2
   ·have k3:¬ZgL.Kind e=3:=by omega
    by_cases q1:p.1<0
    ·rw[ZH2 k2 q1,if_pos k2,if_pos q1]
    ·rw[ZE0 k3 (λq=>q1 q.2),if_pos k2,if_neg q1,if_neg k3,if_neg k3]
   ·rw[if_neg k2]
    by_cases k3:ZgL.Kind e=3
    ·by_cases q1:p.1<0
     ·rw[ZHt k3 q1,if_pos k3,if_pos q1]
     ·by_cases q2:p.1=((Zg.Instances (Zj.Design b)).length:Int)-1
      ·rw[ZIL k3 q1 q2,if_pos k3,if_neg q1,if_pos k3,if_pos q2]
      ·rw[ZH3 k3 q1 q2,if_pos k3,if_neg q1,if_pos k3,if_neg q2]
    ·rw[ZE0 k3 (λq=>k2 q.1),if_neg k3,if_neg k3])
  (by simp only[ZBa,Int.lt_irrefl,if_false];rfl)
 exact this
theorem ZJh (b:Zj) (e:ZgL):(after b e).length=(Zw (Zj.Design b)).length:=ZGK _ _
theorem ZGc {b:Zj} {e:ZgL} (h:ZCe b e):ZDV b e=some (after b e):=by
 have hD:=h.blk.ok.1;have hf:=hD.few;have hpl:=V9 hf;have h14:=hf.insts;have h8:=hf.ports;have hle:(Zg.Xb (Zj.Design b)).length<=(Zw (Zj.Design b)).length:=by unfold Zw;rw[List.length_append,ZGN];omega
 unfold ZDV;rw[QA _ hf,Bq];have:=Za3 (l:=Zw (Zj.Design b)) (ρ:=List Int) (λk p=>[ZFJ b e k p]) [] (step:=λv=>ZBZ b e (Zw (Zj.Design b)) v.1 v.2.1) (good:=after b e)
  (λk p hp hk=>by
   have hl:=ZGK (g:=ZFJ b e) ((Zw (Zj.Design b)).take k) 0;rw[List.length_take] at hl;obtain ⟨hpp,hm1⟩:=ZEK hp;have hg:∀ n:Int,(([]++cat (λk p=>[ZFJ b e k p]) 0 ((Zw (Zj.Design b)).take k)).length+[n].length)*8<=140737488355328:=λn=>by
    grind
   have e1:Wq (((Zw (Zj.Design b)).length:Int)-((Zg.Xb (Zj.Design b)).length:Int))=((Zw (Zj.Design b)).length:Int)-((Zg.Xb (Zj.Design b)).length:Int):=Zar (by omega) (by omega);have e2:Wq (((Zw (Zj.Design b)).length:Int)-((Zg.Xb (Zj.Design b)).length:Int)-2)=((Zw (Zj.Design b)).length:Int)-((Zg.Xb (Zj.Design b)).length:Int)-2:=Zar (by omega) (by omega);have c1:(((Zw (Zj.Design b)).length:Int)-((Zg.Xb (Zj.Design b)).length:Int)<=(k:Int))=(p.1<0):=propext ⟨λq=>hpp.2 (by omega),λq=>by grind⟩;simp only[ZBZ,show (k:Int)<((Zw (Zj.Design b)).length:Int) from by omega,if_true,Zd (hg _),Jb (show k<=1048576 by omega),Zar (show (-9223372036854775808:Int)<=(k:Int)+2 by omega) (by omega),Zar (show (-9223372036854775808:Int)<=(k:Int)-2 by omega) (by omega),e1,e2,c1];by_cases k2:ZgL.Kind e=2
   ·have k3:¬ZgL.Kind e=3:=by omega
    by_cases q1:p.1<0
    ·rw[ZH2 k2 q1,if_pos k2,if_pos q1]
    ·rw[ZE0 k3 (λq=>q1 q.2),if_pos k2,if_neg q1,if_neg k3,if_neg k3]
   ·rw[if_neg k2]
    by_cases k3:ZgL.Kind e=3
    ·obtain ⟨hn,x,hx,hx2⟩:=h.last k3
     by_cases q1:p.1<0
     ·rw[ZHt k3 q1,if_pos k3,if_pos q1]
     ·have hL:=ZHz hn hx hp (by omega)
      rw[hx2] at hL;have c2:(((Zw (Zj.Design b)).length:Int)-((Zg.Xb (Zj.Design b)).length:Int)-2<=(k:Int))=(p.1=((Zg.Instances (Zj.Design b)).length:Int)-1):=propext ⟨λq=>hL.2 (by omega),λq=>by have:=hL.1 q;omega⟩;simp only[c2];by_cases q2:p.1=((Zg.Instances (Zj.Design b)).length:Int)-1
      ·rw[ZIL k3 q1 q2,if_pos k3,if_neg q1,if_pos k3,if_pos q2]
      ·rw[ZH3 k3 q1 q2,if_pos k3,if_neg q1,if_pos k3,if_neg q2]
    ·rw[ZE0 k3 (λq=>k2 q.1),if_neg k3,if_neg k3])
  (by simp only[ZBZ,Int.lt_irrefl,if_false];rfl)
 exact this
theorem ZKi {α τ ρ:Type} {l:List α} (pk:Nat->τ) (P:Nat->α->Prop) (Q:ρ->Prop) {step:τ->Option (τ ⊕ ρ)}
  (hs:∀ (k:Nat) (x:α),l[k]?=some x->k<l.length->(P k x->step (pk k)=some (.inl (pk (k+1))))/\(¬P k x->∃ r,step (pk k)=some (.inr r)/\(¬ZdM l P->Q r)))
  (hx:ZdM l P->∃ r,step (pk l.length)=some (.inr r)/\Q r):∃ r,Zq step (pk 0)=some r/\Q r:=by
 refine JQ l.length (λk v=>v=pk k/\∀ (j:Nat) (y:α),j<k->l[j]?=some y->P j y) Q ⟨rfl,λj y hj=>by omega⟩ ?_ ?_
 ·rintro k v hk ⟨rfl,hS⟩
  have hx:l[k]?=some l[k]:=List.getElem?_eq_getElem hk;obtain ⟨h1,h2⟩:=hs k _ hx hk;by_cases hP:P k l[k]
  ·refine .inl ⟨_,h1 hP,rfl,λj y hj hy=>?_⟩
   by_cases hjk:j<k
   ·exact hS j y hjk hy
   ·have:j=k:=by omega
    subst this;rw[hx] at hy;injection hy with hy;subst hy;exact hP
  ·obtain ⟨r,r1,r2⟩:=h2 hP
   exact .inr ⟨r,r1,r2 λhA=>hP (hA k _ hx)⟩
 ·rintro v ⟨rfl,hS⟩
  exact hx λk x hk=>hS k x (List.getElem?_eq_some_iff.1 hk).1 hk
theorem ZLJ {α:Type} {l:List α} {f:α->α} {k:Nat} {x:α} (hx:l[k]?=some x):List.set ((l.take k).map f++l.drop k) k (f x)=(l.take (k+1)).map f++l.drop (k+1):=by
 have hk:=(List.getElem?_eq_some_iff.1 hx).1;have h1:((l.take k).map f).length=k:=by rw[List.length_map,List.length_take];omega
 rw[List.set_append,if_neg (by omega),h1,Nat.sub_self,Yy hx,List.map_append,List.append_assoc];congr 1;have h2:l.drop k=x::l.drop (k+1):=by
  rw[List.drop_eq_getElem_cons hk];congr 1;have:=List.getElem?_eq_getElem hk;rw[hx] at this;injection this with this;exact this.symm
 rw[h2];rfl
theorem atC {α:Type} {l:List α} {f:α->α} {k:Nat} {x:α} (hx:l[k]?=some x):((l.take k).map f++l.drop k)[k]?=some x:=by
 have hk:=(List.getElem?_eq_some_iff.1 hx).1;have h1:((l.take k).map f).length=k:=by rw[List.length_map,List.length_take];omega
 rw[List.getElem?_append_right (by omega),h1,Nat.sub_self,List.getElem?_drop];exact hx
theorem ZL7 {α:Type} (l:List α) (f:α->α) (k:Nat):((l.take k).map f++l.drop k).length=l.length:=by
 rw[List.length_append,List.length_map,List.length_take,List.length_drop];omega
theorem ZJV {p:Prop} [Decidable p]:tr p=decide p:=ZkJ decide_eq_true_iff
theorem ZEa {af:List Int} {n:Nat} (haf:af.length=n) {l:List Int} (h:Zna n l):∃ l',ZBS af l=some (tr (LOk af l),l')/\(LOk af l->l'=ZI2 af l):=by
 have h4:=h.1;have:=ZKi (l:=l) (ρ:=Bool×List Int) (λk=>((k:Int),(l.take k).map (ZAQ af)++l.drop k,())) (λ_ x=>0<=ZAQ af x) (λr=>r.1=tr (LOk af l)/\(LOk af l->r.2=ZI2 af l)) (step:=λv=>ZCh af l v.1 v.2.1)
  (λk x hx hk=>by
   obtain ⟨h0,h1⟩:=ZIe h hx;have hat:atI (List.set ((l.take k).map (ZAQ af)++l.drop k) k (ZAQ af x)) (k:Int)=some (ZAQ af x):=ZHF (by rw[ZL7];exact hk);simp only[ZCh,show (k:Int)<(l.length:Int) from by omega,if_true,Zu,atC hx,Bq,ZEQ h0 (by rw[haf];exact h1),Int.toNat_natCast,Jb (show k<=1048576 by omega)];rw[<-Zu,hat,Bq,ZLJ hx];constructor
   ·intro q;rw[if_neg (by omega)]
   ·intro q
    rw[if_pos (by omega)];exact ⟨_,rfl,λhn=>⟨(ZF hn).symm,λhy=>absurd hy hn⟩⟩)
  (λhA=>by
   simp only[ZCh,Int.lt_irrefl,if_false];refine ⟨_,rfl,(Yf hA).symm,λ_=>?_⟩;show (l.take l.length).map (ZAQ af)++l.drop l.length=_;rw[List.take_length,List.drop_length,List.append_nil];rfl)
 simp only[List.take_zero,List.map_nil,List.nil_append,List.drop_zero] at this;obtain ⟨⟨r1,r2⟩,e,q1,q2⟩:=this;simp only at q1 q2;subst q1;exact ⟨r2,e,q2⟩
theorem ZF1 {α ρ:Type} {l:List α} (f:α->α) (ok:α->Prop) (C:Prop) {step:Int×List α×Bool×Unit->Option ((Int×List α×Bool×Unit) ⊕ ρ)} {good:ρ}
  (hs:∀ (k:Nat) (x:α) (L:List α) (c:Bool),l[k]?=some x->k<l.length->(k:Int)<(l.length:Int)->L[k]?=some x->k<L.length->step ((k:Int),L,c,())=some (.inl (((k+1:Nat):Int),L.set k (f x),c&&tr (ok x),())))
  (hx:step ((l.length:Int),l.map f,tr (C/\∀ x∈l,ok x),())=some (.inr good)):Zq step ((0:Int),l,tr C,())=some good:=by
 have:=JF (l:=l) (ρ:=ρ) (λk=>((k:Int),(l.take k).map f++l.drop k,tr (C/\∀ x∈l.take k,ok x),())) (step:=step) (good:=good)
  (λk x hx hk=>by
   rw[hs k x _ _ hx hk (by omega) (atC hx) (by rw[ZL7];exact hk),ZLJ hx];congr 4;refine Prod.ext ?_ rfl;show (tr (C/\∀ x∈l.take k,ok x)&&tr (ok x))=tr (C/\∀ y∈l.take (k+1),ok y);refine (ZkJ ?_).symm;rw[Bool.and_eq_true,QM,QM,Yy hx];constructor
   ·rintro ⟨⟨q1,q2⟩,q3⟩
    refine ⟨q1,λy hy=>?_⟩;rcases List.mem_append.1 hy with hy | hy
    ·exact q2 y hy
    ·rw[List.mem_singleton.1 hy];exact q3
   ·rintro ⟨q1,q2⟩
    exact ⟨⟨q1,λy hy=>q2 y (List.mem_append_left _ hy)⟩,q2 x (List.mem_append_right _ (List.mem_singleton.2 rfl))⟩)
  (by simp only[List.take_length,List.drop_length,List.append_nil];exact hx)
 have e:tr (C/\∀ x∈([]:List α),ok x)=tr C:=XJ ⟨λq=>q.1,λq=>⟨q,λx hx=>by cases hx⟩⟩;simp only[List.take_zero,List.map_nil,List.nil_append,List.drop_zero,e] at this;exact this
def SOk (af:List Int) (s:Zo):Prop :=
 (((True/\∀ c∈Zo.Yk s,0<=ZAQ af (Zc.Place c))/\∀ x∈Zo.Zbb s,0<=ZAQ af (Zh.Place x))/\∀ x∈Zo.Vp s,0<=ZAQ af (Zh.Place x))/\ZDm af (Zo.Exceptions s)
theorem ZIc {af:List Int} {n:Nat} (haf:af.length=n) {s:Zo} (h:ZH1 n s) (C:Prop) (c1:List Zc) (c2 c3:List Zh) :
  ∃ L,Zq (λv=>ZBf s af c1 c2 c3 v.1 v.2.1 v.2.2.1) ((0:Int),tr C,Zo.Exceptions s,())=some (.inr (.inr (.inr (tr (C/\ZDm af (Zo.Exceptions s)),(c1,c2,c3,L,s.2.2.2.2)))))/\(C/\ZDm af (Zo.Exceptions s)->L=(Zo.Exceptions s).map (ZIs af)):=by
 obtain ⟨_,_,_,h4,_⟩:=h.lens;have:=Zgk (l:=Zo.Exceptions s) (v:=(((0:Int),tr C,Zo.Exceptions s,()):Int×Bool×List Ze×Unit)) (step:=λv=>ZBf s af c1 c2 c3 v.1 v.2.1 v.2.2.1)
  (λk v=>∃ L:List Ze,v=((k:Int),tr (C/\ZDm af ((Zo.Exceptions s).take k)),L,())/\L.length=(Zo.Exceptions s).length/\(∀ j,k<=j->L[j]?=(Zo.Exceptions s)[j]?)/\(C/\ZDm af ((Zo.Exceptions s).take k)->L=((Zo.Exceptions s).take k).map (ZIs af)++(Zo.Exceptions s).drop k))
  (λr=>∃ L,r=(.inr (.inr (.inr (tr (C/\ZDm af (Zo.Exceptions s)),(c1,c2,c3,L,s.2.2.2.2)))))/\(C/\ZDm af (Zo.Exceptions s)->L=(Zo.Exceptions s).map (ZIs af)))
  ⟨Zo.Exceptions s,by
   have e:tr (C/\ZDm af ((Zo.Exceptions s).take 0))=tr C:=XJ ⟨λq=>q.1,λq=>⟨q,λx hx=>by simp at hx⟩⟩;rw[e];rfl,rfl,λ_ _=>rfl,λ_=>by simp⟩
  (λk x v hx hk hI=>by
   obtain ⟨L,rfl,hL,hj,hLc⟩:=hI;obtain ⟨p1,p2,p3⟩:=h.excs x (List.mem_of_getElem? hx);have hLx:L[k]?=some x:=by rw[hj k (Nat.le_refl _)];exact hx
   obtain ⟨l1,a1,b1⟩:=ZEa haf p1;obtain ⟨l2,a2,b2⟩:=ZEa haf p2;obtain ⟨l3,a3,b3⟩:=ZEa haf p3;have a1:ZBS af x.snd.snd.fst=some (tr (LOk af (Ze.From x)),l1):=a1;have a2:ZBS af x.snd.snd.snd.fst=some (tr (LOk af (Ze.Through x)),l2):=a2;have a3:ZBS af x.snd.snd.snd.snd.fst=some (tr (LOk af (Ze.To x)),l3):=a3;have hA:ZDm af ((Zo.Exceptions s).take (k+1))<->ZDm af ((Zo.Exceptions s).take k)/\EOk af x:=by
    unfold ZDm;rw[Yy hx];constructor
    ·exact λq=>⟨λe he=>q e (List.mem_append_left _ he),q x (List.mem_append_right _ (List.mem_singleton.2 rfl))⟩
    ·rintro ⟨q1,q2⟩ e he
     rcases List.mem_append.1 he with he | he
     ·exact q1 e he
     ·rw[List.mem_singleton.1 he];exact q2
   have next:∀ (y:Ze) (c:Bool),c=tr (C/\ZDm af ((Zo.Exceptions s).take (k+1)))->(C/\ZDm af ((Zo.Exceptions s).take (k+1))->y=ZIs af x)->
     ∃ v',(some (.inl (((k+1:Nat):Int),c,List.set L k y,())):Option ((Int×Bool×List Ze×Unit) ⊕ ((Int×(List Zh)×Bool×Unit) ⊕ ((Int×(List Zh)×Bool×Unit) ⊕ ((Int×(List Zc)×Bool×Unit) ⊕ (Bool×Zo))))))=some (.inl v')/\
      ∃ L:List Ze,v'=(((k+1:Nat):Int),tr (C/\ZDm af ((Zo.Exceptions s).take (k+1))),L,())/\L.length=(Zo.Exceptions s).length/\(∀ j,k+1<=j->L[j]?=(Zo.Exceptions s)[j]?)/\(C/\ZDm af ((Zo.Exceptions s).take (k+1))->L=((Zo.Exceptions s).take (k+1)).map (ZIs af)++(Zo.Exceptions s).drop (k+1)):=by
    intro y c hc hy;refine ⟨_,rfl,L.set k y,by rw[hc],by rw[List.length_set];exact hL,λj hjk=>?_,λq=>?_⟩
    ·rw[List.getElem?_set_ne (by omega)];exact hj j (by omega)
    ·rw[hy q,hLc ⟨q.1,(hA.1 q.2).1⟩,ZLJ hx]
   simp only[ZBf,show (k:Int)<((Zo.Exceptions s).length:Int) from by omega,if_true,Zu,hLx,Bq,Jb (show k<=1048576 by omega),Int.toNat_natCast];by_cases q0:C/\ZDm af ((Zo.Exceptions s).take k)
   ·rw[if_pos (Yf q0),a1,Bq]
    by_cases q1:LOk af (Ze.From x)
    ·rw[if_pos (Yf q1),a2,Bq]
     by_cases q2:LOk af (Ze.Through x)
     ·rw[if_pos (Yf q2),a3,Bq]
      refine next _ _ ?_ ?_
      ·refine XJ ⟨λq=>⟨q0.1,hA.2 ⟨q0.2,q1,q2,q⟩⟩,λq=>(hA.1 q.2).2.2.2⟩
      ·intro q
       have q3:=(hA.1 q.2).2.2.2;show (x.fst,x.snd.fst,l1,l2,l3,())=_;rw[b1 q1,b2 q2,b3 q3];rfl
     ·rw[if_neg (λq=>q2 ((QM _).1 q))]
      exact next _ _ (ZF λq=>q2 (hA.1 q.2).2.2.1).symm (λq=>absurd (hA.1 q.2).2.2.1 q2)
    ·rw[if_neg (λq=>q1 ((QM _).1 q))]
     exact next _ _ (ZF λq=>q1 (hA.1 q.2).2.1).symm (λq=>absurd (hA.1 q.2).2.1 q1)
   ·rw[if_neg (λq=>q0 ((QM _).1 q))]
    exact next _ _ (ZF λq=>q0 ⟨q.1,(hA.1 q.2).1⟩).symm (λq=>absurd ⟨q.1,(hA.1 q.2).1⟩ q0))
  (λv hI=>by
   obtain ⟨L,rfl,hL,hj,hLc⟩:=hI;simp only[ZBf,Int.lt_irrefl,if_false];rw[List.take_length] at hLc ⊢;refine ⟨_,rfl,L,rfl,λq=>?_⟩;rw[hLc q,List.drop_length,List.append_nil])
 obtain ⟨r,e,L,rfl,hL⟩:=this;exact ⟨L,e,hL⟩
theorem ZHJ {af:List Int} {n:Nat} (haf:af.length=n) (hn:n<=100) {s:Zo} (h:ZH1 n s):∃ s',ZDf s af=some (tr (SOk af s),s')/\(SOk af s->s'=ZFZ af s):=by
 obtain ⟨h1,h2,h3,_⟩:=h.lens;obtain ⟨L,e,hL⟩:=ZIc haf h ((True/\∀ c∈Zo.Yk s,0<=ZAQ af (Zc.Place c))/\(∀ x∈Zo.Zbb s,0<=ZAQ af (Zh.Place x))/\∀ x∈Zo.Vp s,0<=ZAQ af (Zh.Place x)) ((Zo.Yk s).map (ZIu af)) ((Zo.Zbb s).map (ZE5 af)) ((Zo.Vp s).map (ZE5 af));have hC:(((True/\∀ c∈Zo.Yk s,0<=ZAQ af (Zc.Place c))/\∀ x∈Zo.Zbb s,0<=ZAQ af (Zh.Place x))/\∀ x∈Zo.Vp s,0<=ZAQ af (Zh.Place x))<->((True/\∀ c∈Zo.Yk s,0<=ZAQ af (Zc.Place c))/\(∀ x∈Zo.Zbb s,0<=ZAQ af (Zh.Place x))/\∀ x∈Zo.Vp s,0<=ZAQ af (Zh.Place x)):=and_assoc;have hS:SOk af s<->(((True/\∀ c∈Zo.Yk s,0<=ZAQ af (Zc.Place c))/\(∀ x∈Zo.Zbb s,0<=ZAQ af (Zh.Place x))/\∀ x∈Zo.Vp s,0<=ZAQ af (Zh.Place x))/\ZDm af (Zo.Exceptions s)):=by unfold SOk;rw[hC]
 refine ⟨((Zo.Yk s).map (ZIu af),(Zo.Zbb s).map (ZE5 af),(Zo.Vp s).map (ZE5 af),L,s.2.2.2.2),?_,λq=>?_⟩
 ·rw[XJ hS]
  rw[XJ hC.symm] at e;unfold ZDf;have t0:Bool.true=tr True:=(Yf trivial).symm;rw[t0];refine ZF1 (l:=Zo.Yk s) (ZIu af) (λc=>0<=ZAQ af (Zc.Place c)) True (λk x L c hx hk hk2 hLx hkL=>?_) ?_
  ·obtain ⟨g0,g1⟩:=h.clocks x (List.mem_of_getElem? hx)
   have hat:atI (List.set L k (Zc.Name x,ZAQ af (Zc.Place x),x.snd.snd)) (k:Int)=some (Zc.Name x,ZAQ af (Zc.Place x),x.snd.snd):=ZHF hkL;simp only[ZCB,hk2,if_true,Zu,hLx,Bq,ZEQ g0 (by rw[haf];exact g1),Int.toNat_natCast,Jb (show k<=1048576 by omega)];rw[<-Zu,hat,Bq,ZJV];cases c<;>rfl
  ·simp only[ZCB,Int.lt_irrefl,if_false]
   refine ZF1 (l:=Zo.Zbb s) (ZE5 af) (λc=>0<=ZAQ af (Zh.Place c)) _ (λk x L c hx hk hk2 hLx hkL=>?_) ?_
   ·obtain ⟨g0,g1⟩:=h.ins x (List.mem_of_getElem? hx)
    have hat:atI (List.set L k (ZAQ af (Zh.Place x),x.snd)) (k:Int)=some (ZAQ af (Zh.Place x),x.snd):=ZHF hkL;simp only[ZCA,hk2,if_true,Zu,hLx,Bq,ZEQ g0 (by rw[haf];exact g1),Int.toNat_natCast,Jb (show k<=1048576 by omega)];rw[<-Zu,hat,Bq,ZJV];cases c<;>rfl
   ·simp only[ZCA,Int.lt_irrefl,if_false]
    refine ZF1 (l:=Zo.Vp s) (ZE5 af) (λc=>0<=ZAQ af (Zh.Place c)) _ (λk x L c hx hk hk2 hLx hkL=>?_) ?_
    ·obtain ⟨g0,g1⟩:=h.outs x (List.mem_of_getElem? hx)
     have hat:atI (List.set L k (ZAQ af (Zh.Place x),x.snd)) (k:Int)=some (ZAQ af (Zh.Place x),x.snd):=ZHF hkL;simp only[ZCz,hk2,if_true,Zu,hLx,Bq,ZEQ g0 (by rw[haf];exact g1),Int.toNat_natCast,Jb (show k<=1048576 by omega)];rw[<-Zu,hat,Bq,ZJV];cases c<;>rfl
    ·simp only[ZCz,Int.lt_irrefl,if_false]
     exact e
 ·rw[hL (hS.1 q)]
  rfl
def ZBe (b:Zj) (e:ZgL) (s:Zo) (r:Zj):Prop:=SOk (after b e) s/\ZqT r (ZFZ (after b e) s)
theorem ZIC {af l:List Int} (h:sm (.sl (.int .i64)) l):sm (.sl (.int .i64)) (ZI2 af l):=⟨by unfold ZI2;rw[List.length_map];exact h.1,λx _=>YD _ (by rfl) x⟩
theorem ZIV {t:Ty} {l:List t.den} {f:t.den->t.den} (h:sm (.sl t) l) (hf:∀ x,sm t x->sm t (f x)):sm (.sl t) (l.map f):=by
 refine ⟨by rw[List.length_map];exact h.1,λx hx=>?_⟩;obtain ⟨y,hy,rfl⟩:=List.mem_map.1 hx;exact hf y (h.2 y hy)
theorem ZFG {af:List Int} {s:Zo} (h:sm Vh s):sm Vh (ZFZ af s):=by
 obtain ⟨h1,h2,h3,h4,h5⟩:=Zl5 h;refine ⟨ZIV (t:=Xh) h1 (λx hx=>?_),ZIV (t:=Yx) h2 (λx _=>YD _ (by rfl) _),ZIV (t:=Yx) h3 (λx _=>YD _ (by rfl) _),ZIV (t:=Z4) h4 (λx hx=>?_),h5,trivial⟩
 ·exact ⟨hx.1,trivial,hx.2.2⟩
 ·obtain ⟨a1,a2,a3⟩:=ZuY hx
  exact ⟨trivial,trivial,ZIC a1,ZIC a2,ZIC a3,trivial⟩
theorem ZET {b:Zj} {e:ZgL} (h:ZCe b e) (he:sm Zug e) (hc0:ZA0 b e=some 0) {s:Zo} (hs:sm Vh s) (hS:Znb (Zw (Zj.Design b)) s) :
  ∃ r,ZAp e b=some r/\ZCj b e=some r/\ZdN r/\Zj.Library r=Zj.Library b/\
   ZAM e b s=some (sel (ZBe b e s r) (ZFZ (after b e) s,true) (ZES,false))/\
   ZAS b e s=some (sel (ZBe b e s r) (ZFZ (after b e) s,0) (ZES,5)):=by
 obtain ⟨r,r1,r2,r3,r4⟩:=ZJ8 h he;have hpl:=V9 h.blk.ok.1.few;have hF:=ZKd hS;have hal:=ZJh b e;obtain ⟨s',i1,i2⟩:=ZHJ hal (by omega) hF;have hspec:=ZFW hal hF (by omega);have hset:ZqT b s:=⟨h.blk.ok,hS⟩;have hsm:sm Vh (ZFZ (after b e) s):=ZFG hs;refine ⟨r,r1,r2,r3,r4,?_,?_⟩
 ·unfold ZAM
  rw[ZFB (by omega) hF,Bq,ZFD h,Bq,i1,Bq];by_cases q:SOk (after b e) s
  ·rw[i2 q,if_pos (Yf q),r1,Bq,ZCW r _ r3.sm hsm,Bq]
   by_cases q2:ZqT r (ZFZ (after b e) s)
   ·rw[if_pos (Yf q2),YS ⟨q,q2⟩]
   ·rw[if_neg (λq3=>q2 ((QM _).1 q3)),YC (λq3=>q2 q3.2)]
    rfl
  ·rw[if_neg (λq3=>q ((QM _).1 q3)),YC (λq3=>q q3.1)]
   rfl
 ·unfold ZAS
  rw[hc0,Bq,if_pos rfl,Zl6 b s h.blk.sm hs,Bq,if_pos (Yf hset),ZGc h,Bq,hspec,Bq];by_cases qE:ZDm (after b e) (Zo.Exceptions s)
  ·rw[if_pos (Yf qE),r2,Bq,ZJy qE]
   show ((Zeo r (ZFZ (after b e) s)).bind _)=_;rw[Zl6 r _ r3.sm hsm,Bq];by_cases q2:ZqT r (ZFZ (after b e) s)
   ·have hF2:=ZKd q2.2
    have qS:SOk (after b e) s:=by
     refine ⟨⟨⟨⟨trivial,λc hc=>?_⟩,λx hx=>?_⟩,λx hx=>?_⟩,qE⟩
     ·exact (hF2.clocks (ZIu (after b e) c) (List.mem_map.2 ⟨c,hc,rfl⟩)).1
     ·exact (hF2.ins (ZE5 (after b e) x) (List.mem_map.2 ⟨x,hx,rfl⟩)).1
     ·exact (hF2.outs (ZE5 (after b e) x) (List.mem_map.2 ⟨x,hx,rfl⟩)).1
    rw[if_pos (Yf q2),YS ⟨qS,q2⟩];rfl
   ·rw[if_neg (λq3=>q2 ((QM _).1 q3)),YC (λq3=>q2 q3.2)]
    rfl
  ·rw[if_neg (λq3=>qE ((QM _).1 q3)),YC (λq3=>qE q3.1.2)]
   rfl
theorem ZKs {b:Zj} {e:ZgL} (h:ZCe b e):∃ r,ZBp b e=some r:=by
 have hB:=h.blk;have hf:=hB.ok.1.few;have hpl:=V9 hf;have h30:=hB.ok.1.2.1.2.1;have hwn:=hB.ok.2.1;obtain ⟨b1,b2,b3⟩:=ZnM hB.sm;unfold ZBp;rw[QA _ hf,Bq];by_cases k1:ZgL.Kind e=1
 ·obtain ⟨p,x,c,c2,hp,h0,_,hx,_⟩:=h.poss.1 k1
  rw[if_pos k1,hp.at,Bq];have e2:Ya.instance p=p.1:=rfl;simp only[e2,hx,Bq];exact ⟨_,rfl⟩
 rw[if_neg k1];by_cases k2:ZgL.Kind e=2
 ·rw[if_pos k2]
  exact ⟨_,rfl⟩
 rw[if_neg k2];by_cases k3:ZgL.Kind e=3
 ·rw[if_pos k3]
  have hL:=h.poss.2.2.1 k3;obtain ⟨hn,x,hx,hl2⟩:=hL.two;obtain ⟨k,p,m,v,hs,hp,hpi,_,_,hun⟩:=ZCs hB hL;have h14:=hf.insts;have hx2:atI (Zg.Instances (Zj.Design b)) (((Zg.Instances (Zj.Design b)).length:Int)-1)=some x:=Zbc (by omega) (by rw[<-hx];congr 1;omega);rw[Zar (n:=((Zg.Instances (Zj.Design b)).length:Int)-1) (by omega) (by omega),hx2,Bq,
   Zar (n:=((Zj.Qg b).length:Int)-1) (by omega) (by omega),hwn,ZkH _ _ hf,Bq,hs,show atI [(k:Int)] 0=some (k:Int) from rfl,Bq,Zu,hp,Bq]
  split<;>exact ⟨_,rfl⟩
 rw[if_neg k3];by_cases k4:ZgL.Kind e=4
 ·obtain ⟨p,hp,h2,_⟩:=h.poss.2.2.2.1 k4
  have hk:=(List.getElem?_eq_some_iff.1 hp.2).1;rw[if_pos k4,hp.at,Bq,ZCv hB,Bq,Zbc hp.1 (ZEu hk),Bq];exact ⟨_,rfl⟩
 ·have k5:ZgL.Kind e=5:=by have:=h.blank;unfold Blank at this;omega
  obtain ⟨w,hw1,hw2,_⟩:=ZDO hB (h.range.2.2 k5);have hsw:sm Za9 w:=ZeM b3 hw1;rw[if_neg k4,hw2,Bq,ZCX _ hsw];exact ⟨_,rfl⟩
end Go.Proofs.YtepbknolmhmipaaGreatDoor
