/-
  Plain laws: links of arcs.
-/
import Derived.Test.YtpkjbcbepmpddaaGreatDoorLA
namespace Go.Proofs.YtpkjbcbepmpddaaGreatDoor
set_option linter.unusedVariables false
set_option linter.unusedSimpArgs false
open Go Go.Sx
def VZ (f t a b kind ix:Int):Zm:=(2*f+a,2*t+b,kind,ix,())
def trs (a:ZG):List (Int×Int×Unit) :=
 if ZG.Kind a=2 then [(0,0,()),(0,1,())] else if ZG.Kind a=3 then [(1,0,()),(1,1,())] else
  if ZG.Kind a=1 then (if ZG.JZ a=1 then [(0,0,()),(1,1,())] else if ZG.JZ a=2 then [(0,1,()),(1,0,())] else [(0,0,()),(0,1,()),(1,0,()),(1,1,())]) else []
theorem Zs5 (a:ZG):Vl a=some (trs a):=by
 unfold Vl trs;repeat' split
 all_goals rfl
def ZqL (a:ZG) (f t ix:Int):List Zm:=(trs a).map (λp=>VZ f t p.1 p.2.1 1 ix)
theorem ZwX (l:List Zm) (f t a b kind ix:Int) (hl:l.length<=1048576) (hf:0<=f/\f<=1048576) (ht:0<=t/\t<=1048576) (ha:0<=a/\a<=1) (hb:0<=b/\b<=1) :
  Zan l f t a b kind ix=some (l++[VZ f t a b kind ix]):=by
 unfold Zan VZ;rw[Zh (by simp;omega),YT (n:=2*f) (by omega) (by omega),YT (n:=2*t) (by omega) (by omega),YT (n:=2*f+a) (by omega) (by omega),YT (n:=2*t+b) (by omega) (by omega)]
def ZDY (arc:ZG) (a b:Int):Bool :=
 if ZG.Kind arc=1 then (if ZG.JZ arc=3 then true else (decide (ZG.JZ arc=1) == decide (a=b))) else if ZG.Kind arc=2 then decide (a=0) else if ZG.Kind arc=3 then decide (a=1) else false
def Zot (arc:ZG) (f t ix a b:Int):List Zm:=if ZDY arc a b=true then [VZ f t a b 1 ix] else []
theorem Zxl (arc:ZG) (f t ix a b:Int) (l:List Zm) (hl:l.length<=1048576) (hf:0<=f/\f<=1048576) (ht:0<=t/\t<=1048576) (ha:0<=a/\a<=1) (hb:0<=b/\b<=1) :
  Za0 arc f t ix a l b=some (.inl (l++Zot arc f t ix a b,b+1,())):=by
 unfold Za0 Zot ZDY;rw[if_pos (by omega),ZwX l f t a b 1 ix hl hf ht ha hb,YT (n:=b+1) (by omega) (by omega)];simp only[Bq];by_cases k1:ZG.Kind arc=1
 ·simp only[k1,if_true]
  by_cases s3:ZG.JZ arc=3
  ·simp only[s3,if_true]
  ·simp only[s3,if_false]
   split
   ·rfl
   ·rw[List.append_nil]
 by_cases k2:ZG.Kind arc=2
 ·simp only[k2,if_true,Int.reduceEq,if_false,decide_eq_true_eq]
  split
  ·rfl
  ·rw[List.append_nil]
 by_cases k3:ZG.Kind arc=3
 ·simp only[k3,if_true,Int.reduceEq,if_false,decide_eq_true_eq]
  split
  ·rfl
  ·rw[List.append_nil]
 ·simp only[k1,k2,k3,if_false,Bool.false_eq_true,List.append_nil]
theorem Zqv (arc:ZG) (f t ix a b:Int):(Zot arc f t ix a b).length<=1:=by
 unfold Zot;split<;>simp
theorem Zu6 (arc:ZG) (f t ix a:Int) (l:List Zm) (hl:l.length<=1048000) (hf:0<=f/\f<=1048576) (ht:0<=t/\t<=1048576) (ha:0<=a/\a<=1) :
  Zo (λv=>Za0 arc f t ix a v.1 v.2.1) (l,(0:Int),())=some (.inl (l++Zot arc f t ix a 0++Zot arc f t ix a 1,a+1,())):=by
 have h1:=Zqv arc f t ix a 0;have h2:=Zqv arc f t ix a 1;rw[Y1 (v':=(l++Zot arc f t ix a 0,(0:Int)+1,())) (Zxl arc f t ix a 0 l (by omega) hf ht ha (by omega)),
  Y1 (v':=(l++Zot arc f t ix a 0++Zot arc f t ix a 1,(0:Int)+1+1,())) (Zxl arc f t ix a (0+1) _ (by rw[List.length_append];omega) hf ht ha (by omega)),YI]
 simp only[Za0];rw[if_neg (by omega),YT (n:=a+1) (by omega) (by omega)]
theorem ZBG (arc:ZG) (f t ix:Int) (hs:ZG.Kind arc=1->1<=ZG.JZ arc/\ZG.JZ arc<=3):Zot arc f t ix 0 0++Zot arc f t ix 0 1++(Zot arc f t ix 1 0++Zot arc f t ix 1 1)=ZqL arc f t ix:=by
 unfold Zot ZDY ZqL trs;by_cases k1:ZG.Kind arc=1
 ·have h:=hs k1
  by_cases s1:ZG.JZ arc=1
  ·simp[k1,s1]
  by_cases s2:ZG.JZ arc=2
  ·simp[k1,s2]
  ·have s3:ZG.JZ arc=3:=by omega
   simp[k1,s3]
 by_cases k2:ZG.Kind arc=2
 ·simp[k2]
 by_cases k3:ZG.Kind arc=3
 ·simp[k3]
 ·simp[k1,k2,k3]
theorem Zs0 (l:List Zm) (arc:ZG) (f t ix:Int) (hl:l.length<=1047000) (hf:0<=f/\f<=1048576) (ht:0<=t/\t<=1048576) (hs:ZG.Kind arc=1->1<=ZG.JZ arc/\ZG.JZ arc<=3) :
  ZjZ l arc f t ix=some (l++ZqL arc f t ix):=by
 have h1:=Zqv arc f t ix 0 0;have h2:=Zqv arc f t ix 0 1;unfold ZjZ;have s0:Jy arc f t ix l 0=some (.inl (l++Zot arc f t ix 0 0++Zot arc f t ix 0 1,0+1,())):=by
  unfold Jy;rw[if_pos (by omega),Zu6 arc f t ix 0 l (by omega) hf ht (by omega)]
 have s1:Jy arc f t ix (l++Zot arc f t ix 0 0++Zot arc f t ix 0 1) 1=some (.inl (l++Zot arc f t ix 0 0++Zot arc f t ix 0 1++Zot arc f t ix 1 0++Zot arc f t ix 1 1,1+1,())):=by
  unfold Jy;rw[if_pos (by omega),Zu6 arc f t ix 1 _ (by simp only[List.length_append];omega) hf ht (by omega)]
 rw[Y1 (v':=(l++Zot arc f t ix 0 0++Zot arc f t ix 0 1,(1:Int),())) s0,Y1 (v':=(l++Zot arc f t ix 0 0++Zot arc f t ix 0 1++Zot arc f t ix 1 0++Zot arc f t ix 1 1,(2:Int),())) s1,YI (r:=l++ZqL arc f t ix)];simp only[Jy];rw[if_neg (by omega),<-ZBG arc f t ix hs];simp only[List.append_assoc]
def Zyz (c:Zn) (f:Int):List Zm:=cat (λi a=>ZqL a (f+ZG.From a) (f+ZG.To a) (i:Int)) 0 (Zn.Zay c)
theorem ZuS (a:ZG):(trs a).length<=4:=by
 unfold trs;repeat' split
 all_goals simp
theorem Zi6 {b:Zd} (h:Xy b) {x:Zk} (hx:x∈Zf.Instances (Zd.Design b)) (f:Int) (hf:0<=f/\f<=1000000) :
  ∃ c,(ZE.Cells (Zd.Library b))[(Zk.Cell x).toNat]?=some c/\Zl8 c/\Vm b x f=some (Zyz c f):=by
 obtain ⟨hc,⟨c,hc1,hc2⟩,_⟩:=h.ok.1.2.2.1 x hx;have hC:=h.ok.1.1.2.1 c (List.mem_of_getElem? hc1);have hA:=hC.2.2.1.1;refine ⟨c,hc1,hC,?_⟩;unfold Vm;rw[QF hc.1 hc1,Bq];refine XM (l:=Zn.Zay c) (λi a=>ZqL a (f+ZG.From a) (f+ZG.To a) (i:Int)) [] (λk a ha hk=>?_) ?_
 ·have hao:=(hC.2.2.1.2 k a ha).1
  have hpl:=hC.2.1.2.1;have hl:=V4 (f:=λi a=>ZqL a (f+ZG.From a) (f+ZG.To a) (i:Int)) (c:=4) (l:=(Zn.Zay c).take k) (m:=0) (λi a _=>by simp only[ZqL,List.length_map];exact ZuS a);rw[List.length_take] at hl;simp only[List.nil_append,Qo,show (k:Int)<((Zn.Zay c).length:Int) from by omega,if_true,Zp,ha,Zs5,Bq];generalize cat (λi a=>ZqL a (f+ZG.From a) (f+ZG.To a) (i:Int)) 0 ((Zn.Zay c).take k)=acc at hl;have ht4:=ZuS a;have htr:∀ p∈trs a,(0<=p.1/\p.1<=1)/\(0<=p.2.1/\p.2.1<=1):=by
   intro p hp;unfold trs at hp;repeat' split at hp
   all_goals (simp only[List.mem_cons,List.not_mem_nil,or_false] at hp)
   all_goals first | (rcases hp with rfl | rfl | rfl | rfl<;>simp) | (rcases hp with rfl | rfl<;>simp) | exact hp.elim
  have h1:=hao.1;have h2:=hao.2.1;refine (XM (l:=trs a) (ρ:=(List Zm×Int×Unit) ⊕ List Zm) (λ_ p=>[VZ (f+ZG.From a) (f+ZG.To a) p.1 p.2.1 1 (k:Int)]) acc (good:=.inl (acc++ZqL a (f+ZG.From a) (f+ZG.To a) (k:Int),((k+1:Nat):Int),())) (λj p hp hj=>?_) ?_)
  ·have hp2:=htr p (List.mem_of_getElem? hp)
   have hl2:=V4 (f:=λ(_:Nat) (p:Int×Int×Unit)=>[VZ (f+ZG.From a) (f+ZG.To a) p.1 p.2.1 1 (k:Int)]) (c:=1) (l:=(trs a).take j) (m:=0) (λ_ _ _=>by simp);rw[List.length_take] at hl2;simp only[XB,show (j:Int)<((trs a).length:Int) from by omega,if_true,Zp,hp,Bq];rw[Zh (by rw[List.length_append,List.length_singleton];omega),Xm (by omega),YT (n:=f+ZG.From a) (by omega) (by omega),YT (n:=f+ZG.To a) (by omega) (by omega),YT (n:=2*(f+ZG.From a)) (by omega) (by omega),YT (n:=2*(f+ZG.To a)) (by omega) (by omega),YT (n:=2*(f+ZG.From a)+p.1) (by omega) (by omega),YT (n:=2*(f+ZG.To a)+p.2.1) (by omega) (by omega)];rfl
  ·have e:cat (λ(_:Nat) (p:Int×Int×Unit)=>[VZ (f+ZG.From a) (f+ZG.To a) p.1 p.2.1 1 (k:Int)]) 0 (trs a)=ZqL a (f+ZG.From a) (f+ZG.To a) (k:Int):=by
    unfold ZqL;generalize trs a=l;have:∀ (m:Nat),cat (λ(_:Nat) (p:Int×Int×Unit)=>[VZ (f+ZG.From a) (f+ZG.To a) p.1 p.2.1 1 (k:Int)]) m l=l.map (λp=>VZ (f+ZG.From a) (f+ZG.To a) p.1 p.2.1 1 (k:Int)):=by
     induction l with
     | nil=>intro m;rfl
     | cons p r ih=>intro m;simp[cat,ih]
    exact this 0
   simp only[XB,Int.lt_irrefl,if_false,e];rw[Xm (by omega)]
 ·simp only[List.nil_append,Qo,Int.lt_irrefl,if_false];rfl
theorem Zsb (d:Zf) (i j:Int) (h:Few d):ZeB d i j=some (Za5 (λx:Pl=>decide (x.1=i)&&decide (x.2.1=j)) (ZC d)):=by
 have hpl:=XE h;unfold ZeB;rw[Xv d h,Bq];refine Jv (out:=λi=>i) (show Len (ZC d) by show List.length _<=_;omega) (λk x hx=>?_) ?_
 ·have hk:=(List.getElem?_eq_some_iff.1 hx).1
  simp only[Zfi,show (k:Int)<((ZC d).length:Int) from by omega,if_true,Zp,hx,Bq,Bool.and_eq_true,decide_eq_true_eq];grind
 ·simp only[Zfi,Int.lt_irrefl,if_false]
theorem ZtR {α β:Type} {g:Nat->α->β}:∀ {l:List α} {m j:Nat},(cat (λj n=>[g j n]) m l)[j]?=(l[j]?).map (g (m+j))
 | [],m,j=>by simp[cat]
 | x::r,m,0=>by simp[cat]
 | x::r,m,j+1=>by
  simp only[cat,List.cons_append,List.nil_append,List.getElem?_cons_succ];rw[ZtR (l:=r) (m:=m+1) (j:=j),show m+1+j=m+(j+1) by omega]
theorem ZmF {α β:Type} {g:Nat->α->β}:∀ {l:List α} {m:Nat},(cat (λj n=>[g j n]) m l).length=l.length
 | [],m=>rfl
 | x::r,m=>by simp[cat,ZmF (l:=r)]
theorem Zg6 (i:Nat) (x:Zk):(Zaz i x).length=(Zk.Qw x).length:=by unfold Zaz;rw[ZmF]
def fst (d:Zf) (i:Nat):Nat:=(cat Zaz 0 ((Zf.Instances d).take i)).length
theorem ZB4 {d:Zf} {i:Nat} {x:Zk} (hx:(Zf.Instances d)[i]?=some x):fst d (i+1)=fst d i+(Zk.Qw x).length:=by
 unfold fst;rw[Zjs hx,List.length_append,Zg6]
theorem Zlv {d:Zf} {i:Nat} {x:Zk} (hx:(Zf.Instances d)[i]?=some x):∃ B,ZC d=cat Zaz 0 ((Zf.Instances d).take i)++(Zaz i x++B):=by
 have hi:=List.getElem?_eq_some_iff.1 hx;have e:Zf.Instances d=(Zf.Instances d).take i++(x::(Zf.Instances d).drop (i+1)):=by
  rw[<-hi.2,<-List.drop_eq_getElem_cons hi.1,List.take_append_drop]
 refine ⟨cat Zaz (i+1) ((Zf.Instances d).drop (i+1))++cat Zjj 0 (Zf.Qx d),?_⟩;unfold ZC
 conv=>lhs;rw[e]
 rw[ZlN];have hl:((Zf.Instances d).take i).length=i:=by grind
 rw[hl,Nat.zero_add];simp only[cat,List.append_assoc]
theorem ZxG {d:Zf} (h:Few d) {i j:Nat} {x:Zk} (hx:(Zf.Instances d)[i]?=some x) (hj:j<(Zk.Qw x).length) :
  ZeB d (i:Int) (j:Int)=some ((fst d i:Int)+(j:Int)):=by
 rw[Zsb d _ _ h];obtain ⟨B,hB⟩:=Zlv hx;congr 1;have hn:(Zk.Qw x)[j]?=some (Zk.Qw x)[j]:=List.getElem?_eq_getElem hj;have hat:∀ (q:Nat) (y:Pl),(Zaz i x)[q]?=some y->y.1=(i:Int)/\y.2.1=(q:Int):=by
  intro q y hy;unfold Zaz at hy;rw[ZtR,Nat.zero_add] at hy;grind
 have hex:∃ y,(Zaz i x)[j]?=some y:=⟨_,List.getElem?_eq_getElem (by rw[Zg6];exact hj)⟩;obtain ⟨y,hy⟩:=hex;have hy2:=hat j y hy;have:=ZpG (p:=λx:Pl=>decide (x.1=(i:Int))&&decide (x.2.1=(j:Int))) (l:=ZC d) (k:=fst d i+j) (x:=y)
  (by
   rw[hB,List.getElem?_append_right (by unfold fst;omega),show fst d i+j-(cat Zaz 0 ((Zf.Instances d).take i)).length=j by unfold fst;omega,List.getElem?_append_left (by grind)];exact hy)
  (by simp[hy2.1,hy2.2])
  (λq z hq hz=>by
   rw[hB] at hz;by_cases hqA:q<(cat Zaz 0 ((Zf.Instances d).take i)).length
   ·rw[List.getElem?_append_left hqA] at hz
    obtain ⟨i',x',hi',hz'⟩:=Qj.1 (List.mem_of_getElem? hz);have hlt:i'<i:=by
     grind
    rw[Nat.zero_add] at hz';have:z.1=(i':Int):=by
     unfold Zaz at hz';obtain ⟨j',n,_,hn'⟩:=Qj.1 hz';grind
    grind
   ·have hq2:q-(cat Zaz 0 ((Zf.Instances d).take i)).length<j:=by unfold fst at hq;omega
    grind)
 rw[this];omega
def ZoL (b:Zd) (i:Nat) (x:Zk):List Zm:=match (ZE.Cells (Zd.Library b))[(Zk.Cell x).toNat]? with
 | some c=>Zyz c (fst (Zd.Design b) i:Int)
 | none=>[]
def ZnL (b:Zd):List Zm:=cat (ZoL b) 0 (Zf.Instances (Zd.Design b))
theorem Zu7 (c:Zn) (f:Int) (h:(Zn.Zay c).length<=8):(Zyz c f).length<=32:=by
 have:=V4 (f:=λi a=>ZqL a (f+ZG.From a) (f+ZG.To a) (i:Int)) (c:=4) (l:=Zn.Zay c) (m:=0) (λi a _=>by simp only[ZqL,List.length_map];exact ZuS a);unfold Zyz;omega
theorem ZDc {d:Zf} (h:Few d) (i:Nat):fst d i<=70:=Zep h i
theorem ZAh {b:Zd} (h:Xy b) (i:Nat) (x:Zk) (hx:x∈Zf.Instances (Zd.Design b)):(ZoL b i x).length<=32:=by
 obtain ⟨c,h1,h2,_⟩:=Zi6 h hx 0 (by omega);unfold ZoL;rw[h1];exact Zu7 c _ h2.2.2.1.1
theorem Zjr {b:Zd} (h:Xy b) (k:Nat):(cat (ZoL b) 0 ((Zf.Instances (Zd.Design b)).take k)).length<=448:=by
 have h1:=h.ok.1.few.insts;have:=V4 (f:=ZoL b) (c:=32) (l:=(Zf.Instances (Zd.Design b)).take k) (m:=0) (λi x hx=>ZAh h i x (List.mem_of_mem_take hx));grind
theorem Zv2 {b:Zd} (h:Xy b) {i:Nat} {x:Zk} (hx:(Zf.Instances (Zd.Design b))[i]?=some x) {c:Zn} (hc:(ZE.Cells (Zd.Library b))[(Zk.Cell x).toNat]?=some c) (acc:List Zm) (ha:acc.length<=100000) :
  Zo (λv=>Zbu b (i:Int) c v.1 v.2.1) (acc,(0:Int),())=some (.inl (acc++Zyz c (fst (Zd.Design b) i:Int),((i+1:Nat):Int),())):=by
 have hf:=h.ok.1.few;have hi:=(List.getElem?_eq_some_iff.1 hx).1;have h14:=hf.insts;have hxm:=List.mem_of_getElem? hx;obtain ⟨_,⟨c',hc1,hc2⟩,_⟩:=h.ok.1.2.2.1 x hxm;rw[hc] at hc1;injection hc1 with hc1;subst hc1
 have hC:=h.ok.1.1.2.1 c (List.mem_of_getElem? hc);have hA:=hC.2.2.1.1;have hpn:=hC.2.1.2.1;have h70:=ZDc hf i;refine XM (l:=Zn.Zay c) (λk a=>ZqL a ((fst (Zd.Design b) i:Int)+ZG.From a) ((fst (Zd.Design b) i:Int)+ZG.To a) (k:Int)) acc (λk a hka hk=>?_) ?_
 ·have hao:=(hC.2.2.1.2 k a hka).1
  have hl:=V4 (f:=λk a=>ZqL a ((fst (Zd.Design b) i:Int)+ZG.From a) ((fst (Zd.Design b) i:Int)+ZG.To a) (k:Int)) (c:=4) (l:=(Zn.Zay c).take k) (m:=0) (λi a _=>by simp only[ZqL,List.length_map];exact ZuS a);rw[List.length_take] at hl;simp only[Zbu,show (k:Int)<((Zn.Zay c).length:Int) from by omega,if_true,Zp,hka,Bq];generalize cat (λk a=>ZqL a ((fst (Zd.Design b) i:Int)+ZG.From a) ((fst (Zd.Design b) i:Int)+ZG.To a) (k:Int)) 0 ((Zn.Zay c).take k)=acc2 at hl;have h1:=hao.1;have h2:=hao.2.1;by_cases hk3:ZG.Kind a<=3
  ·have e1:=ZxG hf hx (j:=(ZG.From a).toNat) (by omega)
   have e2:=ZxG hf hx (j:=(ZG.To a).toNat) (by omega);rw[show ((ZG.From a).toNat:Int)=ZG.From a by omega] at e1;rw[show ((ZG.To a).toNat:Int)=ZG.To a by omega] at e2;rw[if_pos hk3,e1,Bq,e2,Bq,Zs0 _ a _ _ _ (by grind) (by omega) (by omega) (λhk1=>by
    rcases hao.2.2 with hh | hh | hh
    all_goals grind),Bq,Xm (by omega)]
  ·rw[if_neg hk3,Xm (by omega)]
   have e:ZqL a ((fst (Zd.Design b) i:Int)+ZG.From a) ((fst (Zd.Design b) i:Int)+ZG.To a) (k:Int)=[]:=by
    unfold ZqL trs;grind
   grind
 ·simp only[Zbu,Int.lt_irrefl,if_false]
  rw[Xm (by omega)];rfl
def ZBC (d:Zf) (n:Int):List Zm:=cat (λj s=>[VZ (Zjv d n) s 0 0 2 (j:Int),VZ (Zjv d n) s 1 1 2 (j:Int)]) 0 (ZaY d n)
theorem ZCs {d:Zf} (h:Few d) (n:Int):(ZBC d n).length<=156:=by
 have h1:=V4 (f:=λj s=>[VZ (Zjv d n) s 0 0 2 (j:Int),VZ (Zjv d n) s 1 1 2 (j:Int)]) (c:=2) (l:=ZaY d n) (m:=0) (λ_ _ _=>by simp);have h2:=Zgw n (ZC d) 0;have h3:=XE h;unfold ZBC;have:(ZaY d n).length<=78:=by unfold ZaY;omega
 omega
theorem Zu9 {α β γ:Type} (f:Nat->List γ):∀ (l:List α) (r:List β) (m:Nat),l.length=r.length->cat (λk _=>f k) m l=cat (λk _=>f k) m r
 | [],[],_,_=>rfl
 | [],_::_,_,h=>by simp at h
 | _::_,[],_,h=>by simp at h
 | _::l,_::r,m,h=>by simp only[cat];rw[Zu9 f l r (m+1) (by simpa using h)]
def Zx5 (b:Zd):List Zm:=cat (λv _=>ZBC (Zd.Design b) (v:Int)) 0 (Zd.Xo b)
def Zl (b:Zd):List Zm:=ZnL b++Zx5 b
theorem ZmE {b:Zd} (h:Xy b) {α:Type} (l:List α):(cat (λv _=>ZBC (Zd.Design b) (v:Int)) 0 l).length<=156*l.length :=
 V4 (f:=λv _=>ZBC (Zd.Design b) (v:Int)) (c:=156) (l:=l) (m:=0) (λv _ _=>ZCs h.ok.1.few _)
theorem ZjD {b:Zd} (h:Xy b):(ZnL b).length<=448:=by
 have:=Zjr h (Zf.Instances (Zd.Design b)).length;rw[List.take_length] at this;exact this
theorem Zxu {b:Zd} (h:Xy b) {v:Nat} (hv:v<(Zf.Qw (Zd.Design b)).length):0<=Zjv (Zd.Design b) (v:Int)/\Zjv (Zd.Design b) (v:Int)<((ZC (Zd.Design b)).length:Int):=by
 obtain ⟨q,y,hq,_,e,_⟩:=Zxw h.ok.1 (Zne h.sm).2.1 hv;grind
theorem ZdP {b:Zd} (h:Xy b):Zbt b=some (Zl b):=by
 have hf:=h.ok.1.few;have h14:=hf.insts;have h30:=h.ok.1.2.1.2.1;have hpl:=XE hf;unfold Zbt;refine XM (l:=Zf.Instances (Zd.Design b)) (ZoL b) [] (λi x hx hi=>?_) ?_
 ·have hxm:=List.mem_of_getElem? hx
  obtain ⟨hc,⟨c,hc1,hc2⟩,_⟩:=h.ok.1.2.2.1 x hxm;have hl:=Zjr h i;simp only[List.nil_append,Zek,show (i:Int)<((Zf.Instances (Zd.Design b)).length:Int) from by omega,if_true,Zp,hx,Bq,QF hc.1 hc1];rw[Zv2 h hx hc1 _ (by omega)];have e:ZoL b i x=Zyz c (fst (Zd.Design b) i:Int):=by unfold ZoL;rw[hc1]
  rw[e]
 ·have hil:=ZjD h
  simp only[List.nil_append,Zek,Int.lt_irrefl,if_false];refine XM (l:=Zf.Qw (Zd.Design b)) (λv _=>ZBC (Zd.Design b) (v:Int)) (ZnL b) (ρ:=(List Zm×Int×Unit) ⊕ List Zm) (good:=.inr (Zl b)) (λv s hs hv=>?_) ?_
  ·have hdr:=Zxu h hv
   have hl:=ZmE h ((Zf.Qw (Zd.Design b)).take v);rw[List.length_take] at hl;have e1:Zdz (Zd.Design b) (v:Int)=some (Zjv (Zd.Design b) (v:Int)):=Zpx _ _ hf;simp only[Zej,show (v:Int)<((Zf.Qw (Zd.Design b)).length:Int) from by omega,if_true,e1,Bq,ZgQ _ _ hf];have hsl:(ZaY (Zd.Design b) (v:Int)).length<=78:=by
    have:=Zgw (v:Int) (ZC (Zd.Design b)) 0;unfold ZaY;omega
   generalize hacc:ZnL b++cat (λv _=>ZBC (Zd.Design b) (v:Int)) 0 ((Zf.Qw (Zd.Design b)).take v)=acc;have hal:acc.length<=10000:=by grind
   refine XM (l:=ZaY (Zd.Design b) (v:Int)) (λj s=>[VZ (Zjv (Zd.Design b) (v:Int)) s 0 0 2 (j:Int),VZ (Zjv (Zd.Design b) (v:Int)) s 1 1 2 (j:Int)]) acc (λj y hy hj=>?_) ?_
   ·have hyb:=Zls (List.mem_of_getElem? hy)
    have hl2:=V4 (f:=λj s=>[VZ (Zjv (Zd.Design b) (v:Int)) s 0 0 2 (j:Int),VZ (Zjv (Zd.Design b) (v:Int)) s 1 1 2 (j:Int)]) (c:=2) (l:=(ZaY (Zd.Design b) (v:Int)).take j) (m:=0) (λ_ _ _=>by simp);rw[List.length_take] at hl2;simp only[Zei,show (j:Int)<((ZaY (Zd.Design b) (v:Int)).length:Int) from by omega,if_true,Zp,hy,Bq];rw[ZwX _ _ _ _ _ _ _ (by grind) (by omega) (by omega) (by omega) (by omega),Bq,ZwX _ _ _ _ _ _ _ (by grind) (by omega) (by omega) (by omega) (by omega),Bq,Xm (by omega)];grind
   ·simp only[Zei,Int.lt_irrefl,if_false]
    rw[Xm (by omega)];rfl
  ·simp only[Zej,Int.lt_irrefl,if_false]
   rw[Zu9 (λv=>ZBC (Zd.Design b) (v:Int)) (Zf.Qw (Zd.Design b)) (Zd.Xo b) 0 h.ok.2.1.symm];rfl
structure Stand (d:Zf) (n k:Nat) (l0:List Int) (l1:List (List Int)):Prop where
 n0:l0.length=n
 n1:l1.length=n
 drv:∀ (v q:Nat) (y:Pl),v<n->q<k->(ZC d)[q]?=some y->Zxv (v:Int) y=true->l0[v]?=some (q:Int)
 snk:∀ (v:Nat),v<n->l1[v]?=some (cat (ZiV (v:Int)) 0 ((ZC d).take k))
noncomputable def ldF (b:Zd) (v:Nat):Int:=((YH b (v:Int)).bind (λr=>r[0]?)).getD 0
noncomputable def edF (b:Zd) (v:Nat):List Int:=(XU b (v:Int)).getD []
theorem ZwT {b:Zd} (h:Xy b):∃ v,VQ b=some v/\ZF.ZC v=ZC (Zd.Design b)/\ZF.Block v=b/\ZF.links v=Zl b/\ZF.loads v=(List.range (Zd.Xo b).length).map (ldF b)/\ZF.Zkb v=(List.range (Zd.Xo b).length).map (edF b)/\ZF.extras v=[]:=by
 have hD:=h.ok.1;have hf:=hD.few;have hsd:=(Zne h.sm).2.1;have hpl:=XE hf;have h14:=hf.insts;have hwn:=h.ok.2.1;have h30:=hD.2.1.2.1;have hil:=ZjD h;unfold VQ;rw[X6 _ hf,Bq];refine Zd4 (l:=Zf.Instances (Zd.Design b)) (λk v=>v.1=((fst (Zd.Design b) k:Nat):Int)/\v.2.1=(k:Int)/\v.2.2.1=cat (ZoL b) 0 ((Zf.Instances (Zd.Design b)).take k)) _ ⟨rfl,rfl,rfl⟩ ?_ ?_
 ·rintro k x ⟨n,i,c,⟨⟩⟩ hx hk ⟨hn,hi,hc⟩
  simp only at hn hi hc;subst hi;subst hn;subst hc;have h70:=ZDc hf k;have hl:=Zjr h k;obtain ⟨c,h1,h2,h3⟩:=Zi6 h (List.mem_of_getElem? hx) ((fst (Zd.Design b) k:Nat):Int) (by omega);have hal:=Zu7 c ((fst (Zd.Design b) k:Nat):Int) h2.2.2.1.1;have hnx:=hf.nets x (List.mem_of_getElem? hx);simp only[Zab,show (k:Int)<((Zf.Instances (Zd.Design b)).length:Int) from by omega,if_true,Zp,hx,h3,Bq,ZaH];rw[Zh (by omega)];refine ⟨_,rfl,?_,?_,?_⟩
  ·simp only;rw[YT (by omega) (by omega),ZB4 hx];omega
  ·simp only;rw[Xm (by omega)]
  ·simp only
   rw[Zjs hx];congr 1;unfold ZoL;rw[h1]
 ·rintro ⟨n,i,c0,⟨⟩⟩ ⟨_,hi,hc0⟩
  simp only at hi hc0;subst hi;rw[List.take_length] at hc0;have hc0l:c0.length<=448:=by rw[hc0];exact hil
  simp only[Zab,Int.lt_irrefl,if_false];rw[Zh (by omega),Zh (by omega),Zh (by omega),Zh (by omega),Zh (by omega)];obtain ⟨r,hr1,r',rfl,hr2⟩:=Zd4 (l:=ZC (Zd.Design b)) (ρ:=(Int×Int×List Zm×Unit) ⊕ ZF) (step:=λv=>Q7 b (ZC (Zd.Design b)) c0 v.1 v.2.1 v.2.2.1) (v:=((0:Int),List.replicate (Int.toNat (↑(List.length (Zd.Xo b)):Int)) (0:Int),List.replicate (Int.toNat (↑(List.length (Zd.Xo b)):Int)) (([]:List Int)),()))
   (λk v=>v.1=(k:Int)/\Stand (Zd.Design b) (Zd.Xo b).length k v.2.1 v.2.2.1)
   (λr=>∃ r',r=.inr r'/\ZF.ZC r'=ZC (Zd.Design b)/\ZF.Block r'=b/\ZF.links r'=Zl b/\ZF.loads r'=(List.range (Zd.Xo b).length).map (ldF b)/\ZF.Zkb r'=(List.range (Zd.Xo b).length).map (edF b)/\ZF.extras r'=[])
   ⟨rfl,by simp,by simp,λv q y _ hq=>by omega,λv hv=>by
    rw[List.take_zero];simp only[cat];grind⟩
   (by
    rintro k x ⟨i,l0,l1,⟨⟩⟩ hx hk ⟨hi,hS⟩;simp only at hi hS;subst hi;have hn:=ZrU hD (List.mem_of_getElem? hx);have hn1:=hn.2;have hn00:0<=x.2.2.1:=hn.1;have htn:Xb.net x=x.2.2.1:=rfl;simp only[Q7,show (k:Int)<((ZC (Zd.Design b)).length:Int) from by omega,if_true,Zp,hx,Bq];have hn0:=hS.n0;have hn2:=hS.n1;obtain ⟨q,hq1,_⟩:=Zgi (l:=l0) hn.1 (by omega);obtain ⟨p,hp1,_⟩:=Zgi (l:=l1) hn.1 (by omega);have hpv:p=cat (ZiV x.2.2.1) 0 ((ZC (Zd.Design b)).take k):=by
     have e:=hS.snk (x.2.2.1).toNat (by omega);have e2:l1[(x.2.2.1).toNat]?=some p:=by
      have:=hp1;unfold atI at this;grind
     grind
    have hpl2:p.length<=78:=by
     rw[hpv];have:=Zgw x.2.2.1 ((ZC (Zd.Design b)).take k) 0;grind
    by_cases hd:x.2.2.2.1=true
    ·rw[if_pos hd,show atI l0 (Xb.net x)=some q from hq1,Bq]
     refine ⟨_,rfl,by simp only;rw[Xm (by omega)],?_,?_,?_,?_⟩
     ·simp[hn0]
     ·exact hn2
     ·intro v p' y hv hp' hy hdy
      simp only;rw[List.getElem?_set];by_cases hnet:(Xb.net x).toNat=v
      ·rw[if_pos hnet,if_pos (by omega)]
       obtain ⟨q',_,_,_,_,uniq⟩:=Zxw hD hsd (v:=v) (by omega);have hxd:Zxv (v:Int) x=true:=by
        unfold Zxv;grind
       grind
      ·rw[if_neg hnet]
       have hpk:p'≠k:=by
        intro e;subst e;rw[hx] at hy;injection hy with hy
        subst hy;unfold Zxv at hdy;grind
       exact hS.drv v p' y hv (by omega) hy hdy
     ·intro v hv
      simp only;rw[hS.snk v hv,Zjs hx];congr 1;have:ZiV (v:Int) k x=[]:=by
       unfold ZiV;grind
      grind
    ·rw[if_neg hd,show atI l1 (Xb.net x)=some p from hp1,Bq,Zh (by simp;omega)]
     refine ⟨_,rfl,by simp only;rw[Xm (by omega)],hn0,?_,?_,?_⟩
     ·simp[hn2]
     ·intro v p' y hv hp' hy hdy
      have hpk:p'≠k:=by
       intro e;subst e;rw[hx] at hy;injection hy with hy
       subst hy;unfold Zxv at hdy;grind
      exact hS.drv v p' y hv (by omega) hy hdy
     ·intro v hv
      simp only;rw[List.getElem?_set,Zjs hx];by_cases hnet:(Xb.net x).toNat=v
      ·have hxv:x.2.2.1=(v:Int):=by grind
       rw[if_pos hnet,if_pos (by omega),hpv,hxv];unfold ZiV;grind
      ·have hxv:¬x.2.2.1=(v:Int):=λe=>hnet (by grind)
       rw[if_neg hnet,hS.snk v hv];have:ZiV (v:Int) k x=[]:=by unfold ZiV;rw[if_neg hxv]
       grind)
   (by
    rintro ⟨i,l0,l1,⟨⟩⟩ ⟨hi,hS⟩;simp only at hi hS;subst hi;simp only[Q7,Int.lt_irrefl,if_false];have hS0:=hS.n0;obtain ⟨r,hr1,r',rfl,hr2⟩:=Zd4 (l:=Zd.Xo b) (ρ:=(Int×List Int×List (List Int)×Unit) ⊕ ((Int×Int×List Zm×Unit) ⊕ ZF)) (step:=λv=>Q6 b (ZC (Zd.Design b)) l0 v.1 v.2.1 v.2.2.1 v.2.2.2.1 v.2.2.2.2.1) (v:=((0:Int),([]:List Int),([]:List (List Int)),c0,l1,()))
     (λk v=>v.1=(k:Int)/\v.2.1=(List.range k).map (ldF b)/\v.2.2.1=(List.range k).map (edF b)/\v.2.2.2.1=c0++cat (λv _=>ZBC (Zd.Design b) (v:Int)) 0 ((Zd.Xo b).take k)/\v.2.2.2.2.1=l1)
     (λr=>∃ r',r=.inr (.inr r')/\ZF.ZC r'=ZC (Zd.Design b)/\ZF.Block r'=b/\ZF.links r'=Zl b/\ZF.loads r'=(List.range (Zd.Xo b).length).map (ldF b)/\ZF.Zkb r'=(List.range (Zd.Xo b).length).map (edF b)/\ZF.extras r'=[])
     ⟨rfl,rfl,rfl,by simp[cat],rfl⟩
     (by
      rintro k w ⟨i,c1,c2,c3,l2,⟨⟩⟩ hw hk ⟨hi,g1,g2,g3,g4⟩;simp only at hi g1 g2 g3 g4;subst hi;subst g4;have hc3:c3.length<=5200:=by
       have:=ZmE h ((Zd.Xo b).take k);grind
      obtain ⟨nl,hnl,hnl2⟩:=ZjO h hw;obtain ⟨ed,hed,hed2⟩:=Zk4 h hw;have hpar:=(h.ok.2.2 k w hw).1.1;have g1l:c1.length=k:=by rw[g1];simp
      have g2l:c2.length=k:=by rw[g2];simp
      have hld:ldF b k=nl[0]:=by
       unfold ldF;grind
      have hedf:edF b k=ed:=by
       unfold edF;grind
      have hn0:atI nl (0:Int)=some nl[0]:=(show nl[0]?=some nl[0] from List.getElem?_eq_getElem (by omega));have hl2:=hS.snk k hk;rw[List.take_length] at hl2;obtain ⟨dq,dy,hdq,hdy,hdo,_⟩:=Zxw hD hsd (v:=k) (by omega);have hl0:=hS.drv k dq dy hk (List.getElem?_eq_some_iff.1 hdq).1 hdq hdy;have hdl:=(List.getElem?_eq_some_iff.1 hdq).1;have hl2':l2[k]?=some (ZaY (Zd.Design b) (k:Int)):=hl2;have hsl:(ZaY (Zd.Design b) (k:Int)).length<=78:=by
       have:=Zgw (k:Int) (ZC (Zd.Design b)) 0;unfold ZaY;omega
      simp only[Q6,show (k:Int)<((Zd.Xo b).length:Int) from by omega,if_true,hnl,hn0,hed,Bq,Zp,hl2'];rw[Zh (by simp;omega),Zh (by simp;omega)];obtain ⟨r,hr1,r',rfl,hr2⟩:=Zd4 (l:=ZaY (Zd.Design b) (k:Int)) (ρ:=(Int×List Int×List (List Int)×List Zm×List (List Int)×Unit) ⊕ ((Int×List Int×List (List Int)×Unit) ⊕ ((Int×Int×List Zm×Unit) ⊕ ZF))) (step:=λv=>Q5 l0 (k:Int) c1 c2 l2 nl[0] ed (ZaY (Zd.Design b) (k:Int)) v.1 v.2.1) (v:=((0:Int),c3,()))
       (λm v=>v.1=(m:Int)/\v.2.1=c3++cat (λj s=>[VZ (Zjv (Zd.Design b) (k:Int)) s 0 0 2 (j:Int),VZ (Zjv (Zd.Design b) (k:Int)) s 1 1 2 (j:Int)]) 0 ((ZaY (Zd.Design b) (k:Int)).take m))
       (λr=>∃ r',r=.inl r'/\r'.1=((k+1:Nat):Int)/\r'.2.1=(List.range (k+1)).map (ldF b)/\r'.2.2.1=(List.range (k+1)).map (edF b)/\r'.2.2.2.1=c0++cat (λv _=>ZBC (Zd.Design b) (v:Int)) 0 ((Zd.Xo b).take (k+1))/\r'.2.2.2.2.1=l2)
       ⟨rfl,by simp[cat]⟩
       (by
        rintro m y ⟨i,c4,⟨⟩⟩ hy hm ⟨hi,gc⟩;simp only at hi gc;subst hi;have hyb:=Zls (List.mem_of_getElem? hy);have hc4:c4.length<=6000:=by
         have:=V4 (f:=λj s=>[VZ (Zjv (Zd.Design b) (k:Int)) s 0 0 2 (j:Int),VZ (Zjv (Zd.Design b) (k:Int)) s 1 1 2 (j:Int)]) (c:=2) (l:=(ZaY (Zd.Design b) (k:Int)).take m) (m:=0) (λ_ _ _=>by simp);grind
        simp only[Q5,show (m:Int)<((ZaY (Zd.Design b) (k:Int)).length:Int) from by omega,if_true,Zp,hy,Bq];have st:∀ (j:Nat) (c5:List Zm),j<2->c5.length<=6100->Qt l0 (k:Int) (m:Int) y (j:Int) c5=some (.inl (((j+1:Nat):Int),c5++[VZ (dq:Int) y (j:Int) (j:Int) 2 (m:Int)],())):=by
         intro j c5 hj hc5;simp only[Qt,show (j:Int)<(2:Int) from by omega,if_true,Zp,hl0,Bq];rw[Zh (by simp;omega),YT (n:=2*(dq:Int)) (by omega) (by omega),YT (n:=2*(dq:Int)+(j:Int)) (by omega) (by omega),YT (n:=2*y) (by omega) (by omega),YT (n:=2*y+(j:Int)) (by omega) (by omega),Xm (by omega)];rfl
        have s0:=st 0 c4 (by omega) (by omega);have s1:=st 1 (c4++[VZ (dq:Int) y ((0:Nat):Int) ((0:Nat):Int) 2 (m:Int)]) (by omega) (by simp;omega);have hw2:Zo (λv=>Qt l0 (k:Int) (m:Int) y v.1 v.2.1) ((0:Int),c4,())=some (.inl (((m+1:Nat):Int),c4++[VZ (dq:Int) y ((0:Nat):Int) ((0:Nat):Int) 2 (m:Int)]++[VZ (dq:Int) y ((1:Nat):Int) ((1:Nat):Int) 2 (m:Int)],())):=by
         rw[Y1 (v':=(((0+1:Nat):Int),c4++[VZ (dq:Int) y ((0:Nat):Int) ((0:Nat):Int) 2 (m:Int)],())) s0,Y1 (v':=(((1+1:Nat):Int),c4++[VZ (dq:Int) y ((0:Nat):Int) ((0:Nat):Int) 2 (m:Int)]++[VZ (dq:Int) y ((1:Nat):Int) ((1:Nat):Int) 2 (m:Int)],())) s1,YI];simp only[Qt];rw[if_neg (by omega),Xm (by omega)]
        refine ⟨_,hw2,rfl,?_⟩;simp only;rw[gc,Zjs hy,hdo];simp only[List.append_assoc,List.cons_append,List.nil_append,Int.natCast_zero,Int.natCast_one])
       (by
        rintro ⟨i,c4,⟨⟩⟩ ⟨hi,gc⟩;simp only at hi gc;subst hi;rw[List.take_length] at gc;simp only[Q5,Int.lt_irrefl,if_false];refine ⟨_,rfl,_,rfl,by simp only;rw[Xm (by omega)],by simp only;rw[g1,List.range_succ,List.map_append,List.map_singleton,hld],by simp only;rw[g2,List.range_succ,List.map_append,List.map_singleton,hedf],?_,?_⟩
        ·simp only
         rw[gc,g3,Zjs hw,List.append_assoc];rfl
        ·simp only
         apply List.ext_getElem?;grind)
      grind)
     (by
      rintro ⟨i,c1,c2,c3,l2,⟨⟩⟩ ⟨hi,g1,g2,g3,g4⟩;simp only at hi g3;subst hi;rw[List.take_length] at g3;simp only[Q6,Int.lt_irrefl,if_false];refine ⟨_,rfl,_,rfl,rfl,rfl,?_,g1,g2,rfl⟩;show c3=Zl b;rw[g3,hc0];rfl)
    grind)
  grind
def ZaW (n:Nat) (br:List Int):List Bool:=(List.range n).map (λ(k:Nat)=>!decide ((k:Int)∈br))
theorem QA (n:Nat) (br:List Int):(ZaW n br).length=n:=by simp[ZaW]
theorem ZiX (l:List Int) (x:Int) (hl:l.length<=1048576):ZfM l x=some (decide (x∈l)):=by
 unfold ZfM;rw[Jv (l:=l) (p:=λy=>decide (y=x)) (out:=λi=>decide (0<=i)) (show List.length _<=_ by omega) (λk y hy=>by
  have hk:=(List.getElem?_eq_some_iff.1 hy).1;simp only[ZfN,show (k:Int)<(l.length:Int) from by omega,if_true,Zp,hy,Bq,decide_eq_true_eq];split;all_goals simp_all) (by simp only[ZfN,Int.lt_irrefl,if_false];rfl)]
 congr 1;rw[decide_eq_decide,VL,List.any_eq_true];grind
theorem ZhU (L:List Zm) (br:List Int) (hL:L.length<=6000) (hb:br.length<=1048576):ZeC L br=some (ZaW L.length br):=by
 have e:cat (λk (_:Zm)=>[!decide ((k:Int)∈br)]) 0 L=ZaW L.length br:=by
  apply List.ext_getElem?;intro j;rw[ZtR];unfold ZaW;grind
 unfold ZeC;refine XM (l:=L) (λk (_:Zm)=>[!decide ((k:Int)∈br)]) [] (λk x hx hk=>?_) ?_
 ·have h1:(cat (λk (_:Zm)=>[!decide ((k:Int)∈br)]) 0 (L.take k)).length=(L.take k).length:=ZmF
  rw[List.length_take] at h1;simp only[List.nil_append,Zfj,show (k:Int)<(L.length:Int) from by omega,if_true,ZiX br _ hb,Bq];rw[Zh (by grind),Xm (by omega)]
 ·simp only[List.nil_append,Zfj,Int.lt_irrefl,if_false,e]
theorem Ztr {n:Nat} {s:List Int} {x:Int} (h0:0<=x) (h1:x<(n:Int)):List.set (ZaW n s) (Int.toNat x) false=ZaW n (s++[x]):=by
 apply List.ext_getElem?;intro j;rw[List.getElem?_set];unfold ZaW;grind
theorem ZyJ (v:ZF) (br:List Int) (hL:(ZF.links v).length<=6000) (hb:ZiZ br 0 (((ZF.links v).length:Int)-1)) (hbl:br.length<=1048576):VH v br=some (v,ZaW (ZF.links v).length br,()):=by
 unfold VH;rw[Zh (by omega),Zh (by omega),Zh (by omega),Zh (by omega)];generalize hn:(ZF.links v).length=n at *;have hlen:List.length (List.replicate (Int.toNat (n:Int)) false)=n:=by simp
 have hrest:Zo (λw=>Q8 v br w.1 w.2.1) ((0:Int),List.replicate n true,())=some (.inr (v,ZaW n br,())):=by
  have:=Zbo (l:=br) (ρ:=(Int×List Bool×Unit) ⊕ ZI) (λk=>((k:Int),ZaW n (br.take k),())) (step:=λw=>Q8 v br w.1 w.2.1) (good:=.inr (v,ZaW n br,()))
   (λk x hx hk=>by
    have hxb:=hb x (List.mem_of_getElem? hx);obtain ⟨y,hy,_⟩:=Zgi (l:=ZaW n (br.take k)) hxb.1 (by rw[QA];omega);simp only[Q8,show (k:Int)<(br.length:Int) from by omega,if_true,Zp,hx,hy,Bq];rw[Ztr hxb.1 (by omega),YP hx,Xm (by omega)])
   (by simp only[Q8,Int.lt_irrefl,if_false,List.take_length])
  have e0:ZaW n (br.take 0)=List.replicate n true:=by
   apply List.ext_getElem?;intro j;simp only[ZaW,List.take_zero,List.not_mem_nil,decide_false,Bool.not_false,List.getElem?_map,List.getElem?_replicate];grind
  grind
 refine Yb n (λk w=>w.1=(k:Int)/\w.2.1.length=n/\∀ j,j<k->w.2.1[j]?=some true) _ ⟨rfl,by simp,λj hj=>by omega⟩ ?_ ?_
 ·rintro k ⟨i,l,⟨⟩⟩ hk ⟨hi,hl,hS⟩
  simp only at hi hl hS;subst hi;have hx:l[k]?=some l[k]:=List.getElem?_eq_getElem (by omega);left;simp only[Zbj,hn,hlen,show (k:Int)<(n:Int) from by omega,if_true,Zp,hx,Bq];refine ⟨_,rfl,by simp only;rw[Xm (by omega)],by simp[hl],λj hj=>?_⟩;grind
 ·rintro ⟨i,l,⟨⟩⟩ ⟨hi,hl,hS⟩
  simp only at hi hl hS;subst hi;have e:l=List.replicate n true:=by
   apply List.ext_getElem?;grind
  simp only[Zbj,hn,hlen,Int.lt_irrefl,if_false];grind
def ZpQ (n:Int) (l:List Int):Prop:=ZiZ l 0 (n-1)/\Inc l
theorem ZD5 {l:List Int}:Inc l<->Zfu l (λk x=>∀ y,0<k->l[k-1]?=some y->y<x):=by
 constructor
 ·intro h k x hx y hk hy
  exact h (k-1) y x hy (by grind)
 ·intro h k x y hx hy
  exact h (k+1) y hy x (by omega) hx
theorem Zpy (l:List Int) (n:Int) (hl:l.length<=1048576) (hn:0<=n/\n<=1048576):Zgd l n=some (tr (ZpQ n l)):=by
 have e1:Wq (n-1)=n-1:=YT (by omega) (by omega);unfold Zgd;rw[Vt (l:=l) (show List.length _<=_ by omega) (λk x=>(0<=x/\x<=n-1)/\∀ y,0<k->l[k-1]?=some y->y<x) (bad:=false) (good:=true)
  (λk x hx hk _=>by
   simp only[Zdn,show (k:Int)<(l.length:Int) from by omega,if_true,Zp,hx,Bq,Q9,e1];by_cases hb:0<=x/\x<=n-1
   ·rw[if_pos (ZR hb)]
    by_cases h0:(0:Int)<(k:Int)
    ·obtain ⟨y,hy⟩:∃ y,l[k-1]?=some y:=⟨_,List.getElem?_eq_getElem (by omega)⟩
     rw[if_pos h0,Zi1 (by omega) (by omega),Zp,hy,Bq]
     simp_all
    grind
   ·rw[if_neg (λq=>hb ((Xx _).1 q))]
    grind)
  (λ_=>by simp only[Zdn,Int.lt_irrefl,if_false]),ZlC]
 congr 1;refine Vk ?_;unfold ZpQ;rw[ZD5];constructor
 ·intro q
  exact ⟨JK.1 (λk x hx=>(q k x hx).1),λk x hx=>(q k x hx).2⟩
 ·rintro ⟨q1,q2⟩ k x hx
  exact ⟨q1 x (List.mem_of_getElem? hx),q2 k x hx⟩
theorem ZwI (l:List Int) (n:Int) (hl:l.length<=1048576):((XO l 0 n).bind λb=>if b=true then (QJ l).bind λc=>some c else some false)=some (tr (ZiZ l 0 n/\Inc l)) :=
 YR (Zgh _ _ _ hl) (λ_=>ZdT (ZaF _ (show List.length _<=_ by omega)))
theorem Zg0 {b:Zd} (h:Xy b) {l:Zm} (hl:l∈Zl b):(0<=Zm.From l/\Zm.From l<2*((ZC (Zd.Design b)).length:Int))/\(0<=Zm.To l/\Zm.To l<2*((ZC (Zd.Design b)).length:Int)):=by
 have hf:=h.ok.1.few;unfold Zl at hl;rcases List.mem_append.1 hl with hl | hl
 ·obtain ⟨i,x,hi,hx⟩:=Qj.1 hl
  rw[Nat.zero_add] at hx;obtain ⟨hc,⟨c,hc1,hc2⟩,_⟩:=h.ok.1.2.2.1 x (List.mem_of_getElem? hi);have hC:=h.ok.1.1.2.1 c (List.mem_of_getElem? hc1);unfold ZoL at hx;rw[hc1] at hx;obtain ⟨k,a,ha,hla⟩:=Qj.1 hx;have hao:=(hC.2.2.1.2 k a ha).1;have h1:=hao.1;have h2:=hao.2.1;obtain ⟨B,hB⟩:=Zlv hi;have hlen:fst (Zd.Design b) i+(Zk.Qw x).length<=(ZC (Zd.Design b)).length:=by
   rw[hB,List.length_append,List.length_append,Zg6];unfold fst;omega
  unfold ZqL at hla;obtain ⟨p,hp,rfl⟩:=List.mem_map.1 hla;have htr:(0<=p.1/\p.1<=1)/\(0<=p.2.1/\p.2.1<=1):=by
   unfold trs at hp;repeat' split at hp
   all_goals grind
  simp only[VZ,Zm.From,Zm.To];omega
 ·obtain ⟨v,w,hw,hx⟩:=Qj.1 hl
  rw[Nat.zero_add] at hx;have hv:v<(Zf.Qw (Zd.Design b)).length:=by
   have:=(List.getElem?_eq_some_iff.1 hw).1;have:=h.ok.2.1;omega
  have hd:=Zxu h hv;obtain ⟨j,s,hs,hls⟩:=Qj.1 hx;have hsb:=Zls (List.mem_of_getElem? hs);simp only[List.mem_cons,List.not_mem_nil,or_false] at hls;rcases hls with rfl | rfl
  ·simp only[VZ,Zm.From,Zm.To];omega
  ·simp only[VZ,Zm.From,Zm.To];omega
theorem Y7 {b:Zd} (h:Xy b):(Zl b).length<=6000:=by
 have h1:=ZjD h;have h2:=ZmE h (Zd.Xo b);have h3:=h.ok.2.1;have h4:=h.ok.1.2.1.2.1;unfold Zl Zx5;grind
def ZFR (b:Zd) (x:Zm) (y:Pl):Prop:=Zm.Kind x=1/\∃ (i:Nat) (u:Zk) (c:Zn) (k:Nat) (a:ZG),y.1=(i:Int)/\(Zf.Instances (Zd.Design b))[i]?=some u/\0<=Zk.Cell u/\(ZE.Cells (Zd.Library b))[(Zk.Cell u).toNat]?=some c/\
 (Zn.Zay c)[k]?=some a/\Zm.Index x=(k:Int)/\Zc6 (ZG.Delay a) true/\Zc6 (ZG.QU a) true
def ZHQ (b:Zd) (x:Zm) (v:Nat):Prop:=Zm.Kind x=2/\∃ (w:ZB) (j:Nat) (z:Int),(Zd.Xo b)[v]?=some w/\Zm.Index x=(j:Int)/\(ZB.ZgD w)[j]?=some z
structure Zzu (b:Zd) (x:Zm) (y:Pl) (v:Nat):Prop where
 to0:0<=Zm.To x
 to1:Zm.To x<=1000000
 place:(ZC (Zd.Design b))[(Zm.To x / 2).toNat]?=some y
 net:y.2.2.1=(v:Int)
 few:v<(Zd.Xo b).length
 kind:ZFR b x y\/ZHQ b x v
theorem Zvz {b:Zd} (h:Xy b) {x:Zm} (hl:x∈Zl b):∃ y v,Zzu b x y v:=by
 have hf:=h.ok.1.few;have hpl:=XE hf;have hbd:=Zg0 h hl;have hwn:=h.ok.2.1;unfold Zl at hl;rcases List.mem_append.1 hl with hl | hl
 ·obtain ⟨i,u,hi,hx⟩:=Qj.1 hl
  rw[Nat.zero_add] at hx;obtain ⟨hc,⟨c,hc1,hc2⟩,hnets⟩:=h.ok.1.2.2.1 u (List.mem_of_getElem? hi);have hC:=h.ok.1.1.2.1 c (List.mem_of_getElem? hc1);unfold ZoL at hx;rw[hc1] at hx;obtain ⟨k,a,ha,hla⟩:=Qj.1 hx;rw[Nat.zero_add] at hla;have hao:=(hC.2.2.1.2 k a ha).1;have h1:=hao.1;have h2:=hao.2.1;obtain ⟨B,hB⟩:=Zlv hi;unfold ZqL at hla;obtain ⟨p,hp,rfl⟩:=List.mem_map.1 hla;have htr:(0<=p.2.1/\p.2.1<=1)/\(ZG.Kind a=1\/ZG.Kind a=2\/ZG.Kind a=3):=by
   unfold trs at hp;repeat' split at hp
   all_goals grind
  obtain ⟨ht,hk⟩:=htr;have htabs:Zc6 (ZG.Delay a) true/\Zc6 (ZG.QU a) true:=by
   rcases hao.2.2 with q | q | q
   all_goals grind
  have hn:(Zk.Qw u)[(ZG.To a).toNat]?=some ((Zk.Qw u)[(ZG.To a).toNat]'(by omega)):=List.getElem?_eq_getElem _;have hnet:=hnets _ (List.mem_of_getElem? hn);generalize (Zk.Qw u)[(ZG.To a).toNat]'(by omega)=n at hn hnet;have hnet0:0<=n/\n<=((Zf.Qw (Zd.Design b)).length:Int)-1:=hnet;have hfst:(cat Zaz 0 ((Zf.Instances (Zd.Design b)).take i)).length=fst (Zd.Design b) i:=rfl;have eto:Zm.To (VZ ((fst (Zd.Design b) i:Nat)+ZG.From a) ((fst (Zd.Design b) i:Nat)+ZG.To a) p.1 p.2.1 1 (k:Int))=2*((fst (Zd.Design b) i:Int)+ZG.To a)+p.2.1:=rfl;have hpos:((2*((fst (Zd.Design b) i:Int)+ZG.To a)+p.2.1) / 2).toNat=fst (Zd.Design b) i+(ZG.To a).toNat:=by omega
  refine ⟨((i:Int),(((ZG.To a).toNat:Nat):Int),n,decide ((((ZG.To a).toNat:Nat):Int)=Wq (((Zk.Qw u).length:Int)-1)),()),n.toNat,hbd.2.1,by grind,?_,by show n=_;omega,by omega,.inl ⟨rfl,i,u,c,k,a,rfl,hi,hc.1,hc1,ha,rfl,htabs.1,htabs.2⟩⟩;rw[eto,hpos,hB,List.getElem?_append_right (by rw[hfst];omega),hfst,Nat.add_sub_cancel_left,List.getElem?_append_left (by rw[Zg6];omega)];unfold Zaz;rw[ZtR,hn,Nat.zero_add];rfl
 ·obtain ⟨v,w,hw,hx⟩:=Qj.1 hl
  rw[Nat.zero_add] at hx;have hv:=(List.getElem?_eq_some_iff.1 hw).1;obtain ⟨j,s,hs,hls⟩:=Qj.1 hx;rw[Nat.zero_add] at hls;have hsl:((ZB.ZgD w).length:Int)=((ZaY (Zd.Design b) (v:Int)).length:Int):=(h.ok.2.2 v w hw).2.2.2.1;have hjl:=(List.getElem?_eq_some_iff.1 hs).1;have hz:(ZB.ZgD w)[j]?=some ((ZB.ZgD w)[j]'(by omega)):=List.getElem?_eq_getElem _;obtain ⟨q,y,hq,hy⟩:=Qj.1 (show s∈cat (ZiV (v:Int)) 0 (ZC (Zd.Design b)) from List.mem_of_getElem? hs);rw[Nat.zero_add] at hy;have hsq:s=(q:Int)/\y.2.2.1=(v:Int):=by
   unfold ZiV at hy;grind
  obtain ⟨rfl,hnet⟩:=hsq;simp only[List.mem_cons,List.not_mem_nil,or_false] at hls;rcases hls with rfl | rfl
  ·refine ⟨y,v,hbd.2.1,by grind,?_,hnet,hv,.inr ⟨rfl,w,j,_,hw,rfl,hz⟩⟩
   rw[show Zm.To (VZ (Zjv (Zd.Design b) (v:Int)) (q:Int) 0 0 2 (j:Int))=2*(q:Int)+0 from rfl,show ((2*(q:Int)+0) / 2).toNat=q by omega];exact hq
  ·refine ⟨y,v,hbd.2.1,by grind,?_,hnet,hv,.inr ⟨rfl,w,j,_,hw,rfl,hz⟩⟩
   rw[show Zm.To (VZ (Zjv (Zd.Design b) (v:Int)) (q:Int) 1 1 2 (j:Int))=2*(q:Int)+1 from rfl,show ((2*(q:Int)+1) / 2).toNat=q by omega];exact hq
def ZBx (n r:Nat):Prop:=r*r<=n/\n<(r+1)*(r+1)
theorem ZGv {n r:Nat} (h:ZBx n r) (k:Nat):k<=r<->k*k<=n:=by
 constructor
 ·intro q
  exact Nat.le_trans (Nat.mul_le_mul q q) h.1
 ·intro q
  by_cases c:k<=r
  ·exact c
  ·have:(r+1)*(r+1)<=k*k:=Nat.mul_le_mul (by omega) (by omega)
   have:=h.2;omega
theorem ZDo (k:Nat):(2*k)*(2*k)=4*(k*k):=by
 grind
theorem ZCG {S r R:Nat} (h:ZBx S r) (H:ZBx (4*S) R):r / 500=R / 1000:=by
 have e:∀ q:Nat,500*q<=r<->1000*q<=R:=λq=>by
  rw[ZGv h,ZGv H,show 1000*q=2*(500*q) by omega,ZDo];omega
 have e1:=e (r / 500);have e2:=e (R / 1000);omega
def upQ (x n:Nat):Nat:=if x % n=0 then x / n else x / n+1
theorem ZDq {x n q:Nat} (hn:0<n):upQ x n<=q<->x<=n*q:=by
 unfold upQ;have h1:=Nat.div_add_mod x n;have h2:=Nat.mod_lt x hn;constructor
 ·intro h
  split at h
  ·rename_i c
   have:=Nat.mul_le_mul_left n h;omega
  ·have:=Nat.mul_le_mul_left n h
   grind
 ·intro h
  split
  ·rename_i c
   refine Nat.le_of_mul_le_mul_left (c:=n) ?_ hn;omega
  ·rename_i c
   have:n*(x / n)<n*q:=by omega
   have:=Nat.lt_of_mul_lt_mul_left this;omega
theorem ZEs {S r R:Nat} (h:ZBx S r) (H:ZBx (4*S) R):(if r*r<S then r / 500+1 else upQ r 500)=upQ (if R*R<4*S then R+1 else R) 1000:=by
 have hup:∀ {n x:Nat},ZBx n x->∀ k,(if x*x<n then x+1 else x)<=k<->n<=k*k:=by
  intro n x hx k;split
  ·rename_i c
   constructor
   ·intro q
    have:(x+1)*(x+1)<=k*k:=Nat.mul_le_mul q q;have:=hx.2;omega
   ·intro q
    by_cases w:x+1<=k
    ·exact w
    ·have:k*k<=x*x:=Nat.mul_le_mul (by omega) (by omega)
     omega
  ·rename_i c
   have e:x*x=n:=by have:=hx.1;omega
   constructor
   ·intro q
    rw[<-e];exact Nat.mul_le_mul q q
   ·intro q
    by_cases w:x<=k
    ·exact w
    ·have:(k+1)*(k+1)<=x*x:=Nat.mul_le_mul (by omega) (by omega)
     grind
 have e1:∀ q,(if r*r<S then r / 500+1 else upQ r 500)<=q<->S<=(500*q)*(500*q):=λq=>by
  rw[<-hup h (500*q)];split
  ·omega
  ·exact ZDq (by decide)
 have e2:∀ q,upQ (if R*R<4*S then R+1 else R) 1000<=q<->S<=(500*q)*(500*q):=λq=>by
  rw[ZDq (by decide),hup H,show 1000*q=2*(500*q) by omega,ZDo];omega
 generalize (if r*r<S then r / 500+1 else upQ r 500)=A at e1 ⊢;generalize upQ (if R*R<4*S then R+1 else R) 1000=B at e2 ⊢;have a:=(e2 A).2 ((e1 A).1 (Nat.le_refl _));have c:=(e1 B).2 ((e2 B).1 (Nat.le_refl _));omega
theorem ZvR {ρ:Type} {n H:Nat} (hn:n<(H+1)*(H+1)) {step:Int×Int×Unit->Option ((Int×Int×Unit) ⊕ ρ)} {good:Nat->ρ}
  (h1:∀ lo hi:Nat,lo<hi->hi<=H->step ((lo:Int),(hi:Int),())=some (.inl (if (lo+hi+1) / 2*((lo+hi+1) / 2)<=n then ((((lo+hi+1) / 2:Nat):Int),(hi:Int),()) else ((lo:Int),(((lo+hi+1) / 2-1:Nat):Int),()))))
  (h2:∀ lo:Nat,lo<=H->step ((lo:Int),(lo:Int),())=some (.inr (good lo))):∃ r,ZBx n r/\r<=H/\Zo step ((0:Int),(H:Int),())=some (good r):=by
 obtain ⟨x,e,r,rfl,hr,hl⟩:=ZeD (step:=step) (v:=((0:Int),(H:Int),())) (λv=>∃ lo hi:Nat,v=((lo:Int),(hi:Int),())/\lo<=hi/\hi<=H/\lo*lo<=n/\n<(hi+1)*(hi+1)) (λv=>(v.2.1-v.1).toNat) (λx=>∃ r,x=good r/\ZBx n r/\r<=H)
  ⟨0,H,rfl,by omega,by omega,by omega,hn⟩ (by
   rintro _ ⟨lo,hi,rfl,hle,hH,hlo,hhi⟩;by_cases c:lo<hi
   ·left
    refine ⟨_,h1 lo hi c hH,?_,?_⟩
    ·split
     ·rename_i d
      exact ⟨_,_,rfl,by omega,hH,d,hhi⟩
     ·rename_i d
      refine ⟨_,_,rfl,by omega,by omega,hlo,?_⟩;rw[show (lo+hi+1) / 2-1+1=(lo+hi+1) / 2 by omega];omega
    ·split
     ·simp only;omega
     ·simp only;omega
   ·right
    have:lo=hi:=by omega
    subst this;exact ⟨_,h2 lo hH,lo,rfl,⟨hlo,hhi⟩,hH⟩)
 grind
theorem ZDe {lo hi:Nat} (h:lo+hi<=8000000000):Wq (Int.tdiv (Wq (Wq ((lo:Int)+(hi:Int))+(1:Int))) (2:Int))=(((lo+hi+1) / 2:Nat):Int):=by
 rw[YT (n:=(lo:Int)+(hi:Int)) (by omega) (by omega),YT (n:=(lo:Int)+(hi:Int)+1) (by omega) (by omega),Int.tdiv_eq_ediv_of_nonneg (by omega),YT (by omega) (by omega)];omega
theorem ZCN {m:Nat} (h:m<=3000000000):Wq ((m:Int)*(m:Int))=((m*m:Nat):Int):=by
 have:=Nat.mul_le_mul h h;rw[<-Int.natCast_mul];generalize m*m=q at this ⊢;exact YT (by omega) (by omega)
theorem Zvq {S:Nat} (hS:S<(3000000000+1)*(3000000000+1)):∃ r,ZBx S r/\r<=3000000000/\ZnK (S:Int)=some (r:Int):=by
 unfold ZnK;refine ZvR (n:=S) (H:=3000000000) (good:=λr=>(r:Int)) hS (λlo hi hlt hH=>?_) (λlo hl=>?_)
 ·show Zci (S:Int) (lo:Int) (hi:Int)=_
  unfold Zci;rw[if_pos (by omega),ZDe (by omega),ZCN (by omega)];by_cases c:(lo+hi+1) / 2*((lo+hi+1) / 2)<=S
  ·rw[if_pos c,if_pos (by omega)]
  ·rw[if_neg c,if_neg (by omega),YT (by omega) (by omega),show (((lo+hi+1) / 2:Nat):Int)-1=(((lo+hi+1) / 2-1:Nat):Int) by omega]
 ·show Zci (S:Int) (lo:Int) (lo:Int)=_
  unfold Zci;rw[if_neg (Int.lt_irrefl _)]
theorem Zv4 {S:Nat} {m:Int} (hS:S<(2000000000+1)*(2000000000+1)):∃ r,ZBx S r/\r<=2000000000/\Zgz (S:Int) m=some (if m=1 then ((if r*r<S then r+1 else r:Nat):Int) else (r:Int)):=by
 unfold Zgz;refine ZvR (n:=S) (H:=2000000000) (good:=λr=>if m=1 then ((if r*r<S then r+1 else r:Nat):Int) else (r:Int)) hS (λlo hi hlt hH=>?_) (λlo hl=>?_)
 ·show Zam (S:Int) m (lo:Int) (hi:Int)=_
  unfold Zam;rw[if_pos (by omega),ZDe (by omega),ZCN (by omega)];by_cases c:(lo+hi+1) / 2*((lo+hi+1) / 2)<=S
  ·rw[if_pos c,if_pos (by omega)]
  ·rw[if_neg c,if_neg (by omega),YT (by omega) (by omega),show (((lo+hi+1) / 2:Nat):Int)-1=(((lo+hi+1) / 2-1:Nat):Int) by omega]
 ·show Zam (S:Int) m (lo:Int) (lo:Int)=_
  unfold Zam;rw[if_neg (Int.lt_irrefl _),ZCN (by omega)];by_cases m1:m=1
  ·rw[if_pos m1,if_pos m1]
   by_cases c:lo*lo<S
   ·rw[if_pos (by omega),if_pos c,YT (by omega) (by omega)]
    rfl
   ·rw[if_neg (by omega),if_neg c]
  ·rw[if_neg m1,if_neg m1]
theorem Zt2 {x n:Nat} {m:Int} (hn:0<n) (hx:x<=4000000000) (hn2:n<=1000) (hm:m=0\/m=1):Y8 (x:Int) (n:Int) m=some (if m=1 then ((upQ x n:Nat):Int) else ((x / n:Nat):Int)):=by
 have e1:Int.tmod (x:Int) (n:Int)=((x % n:Nat):Int):=by rw[Int.tmod_eq_emod_of_nonneg (by omega)];omega
 have e2:Int.tdiv (x:Int) (n:Int)=((x / n:Nat):Int):=by rw[Int.tdiv_eq_ediv_of_nonneg (by omega)];omega
 have hq:=Nat.div_le_self x n;unfold Y8 upQ;rw[Zh (by omega),e1,e2];clear e1 e2;generalize x / n=q at hq ⊢;rw[if_neg (by omega),YT (n:=(q:Int)) (by omega) (by omega)];by_cases c:x % n=0
 ·rw[if_neg (by omega),if_pos c]
  rcases hm with rfl | rfl<;>rfl
 ·rw[if_pos (by omega),if_neg c]
  rcases hm with rfl | rfl
  ·rfl
  ·rw[if_pos rfl,if_pos rfl,YT (by omega) (by omega)]
   rfl
def sqs (s d:Int):Nat:=250000*(s.natAbs*s.natAbs)+d.natAbs*d.natAbs
theorem ZGE {s d:Int} (h1:-1000000<=s) (h2:s<=1000000) (h3:0<=d) (h4:d<=301000000):sqs s d<=350000000000000000/\(s.natAbs*s.natAbs:Nat)<=1000000000000/\(d.natAbs*d.natAbs:Nat)<=90601000000000000/\s*s=((s.natAbs*s.natAbs:Nat):Int)/\d*d=((d.natAbs*d.natAbs:Nat):Int):=by
 have a:=Nat.mul_le_mul (show s.natAbs<=1000000 by omega) (show s.natAbs<=1000000 by omega);have b:=Nat.mul_le_mul (show d.natAbs<=301000000 by omega) (show d.natAbs<=301000000 by omega);refine ⟨?_,by omega,by omega,?_,?_⟩
 ·unfold sqs
  generalize s.natAbs*s.natAbs=x at *;generalize d.natAbs*d.natAbs=y at *;omega
 ·rw[Int.natCast_mul,Int.natAbs_mul_self']
 ·rw[Int.natCast_mul,Int.natAbs_mul_self']
theorem ZBr {s d m:Int} (h1:-1000000<=s) (h2:s<=1000000) (h3:0<=d) (h4:d<=301000000) (hm:m=0\/m=1) :
  ∃ r,Zg4 s d m=some r/\0<=r/\((Zgz (Wq (Wq (Wq ((1000000:Int)*s)*s)+Wq (Wq ((4:Int)*d)*d))) m).bind λl07Root0=>(Y8 l07Root0 (1000:Int) m).bind λl01Div0=>some l01Div0)=some r:=by
 obtain ⟨b1,b2,b3,e1,e2⟩:=ZGE h1 h2 h3 h4;have ei:Wq (Wq (Wq (Wq ((500:Int)*s)*(500:Int))*s)+Wq (d*d))=((sqs s d:Nat):Int):=by
  have f1:(500:Int)*s*500*s=250000*(s*s):=by
   rw[<-Int.mul_assoc];congr 1;omega
  rw[YT (n:=500*s) (by omega) (by omega),YT (n:=500*s*500) (by omega) (by omega),f1,e1,e2];unfold sqs;generalize s.natAbs*s.natAbs=x at *;generalize d.natAbs*d.natAbs=y at *;rw[YT (n:=250000*(x:Int)) (by omega) (by omega),YT (n:=(y:Int)) (by omega) (by omega),YT (by omega) (by omega)];omega
 have es:Wq (Wq (Wq ((1000000:Int)*s)*s)+Wq (Wq ((4:Int)*d)*d))=((4*sqs s d:Nat):Int):=by
  rw[YT (n:=1000000*s) (by omega) (by omega),YT (n:=4*d) (by omega) (by omega),Int.mul_assoc,Int.mul_assoc,e1,e2];unfold sqs;generalize s.natAbs*s.natAbs=x at *;generalize d.natAbs*d.natAbs=y at *;rw[YT (n:=1000000*(x:Int)) (by omega) (by omega),YT (n:=4*(y:Int)) (by omega) (by omega),YT (by omega) (by omega)];omega
 generalize sqs s d=S at b1 ei es;obtain ⟨r,hr,hrl,hre⟩:=Zvq (S:=S) (by omega);obtain ⟨R,hR,hRl,hRe⟩:=Zv4 (S:=4*S) (m:=m) (by omega);unfold Zg4;rw[ei,es,hre,hRe,Bq,Bq,Zju,ZCN (by omega)];rw[show (500:Int)=((500:Nat):Int) from rfl,show (1000:Int)=((1000:Nat):Int) from rfl];rcases hm with rfl | rfl
 ·refine ⟨((r / 500:Nat):Int),?_,by omega,?_⟩
  ·rw[if_neg (by decide),Zt2 (by omega) (by omega) (by omega) (.inl rfl),Bq,if_neg (by decide)]
  ·rw[if_neg (by decide),Zt2 (by omega) (by omega) (by omega) (.inl rfl),Bq,if_neg (by decide),ZCG hr hR]
 ·have hl:=ZEs hr hR
  refine ⟨((upQ (if R*R<4*S then R+1 else R) 1000:Nat):Int),?_,by omega,?_⟩
  ·rw[if_pos rfl,<-hl]
   by_cases c:r*r<S
   ·rw[if_pos (by omega),if_pos c,Int.tdiv_eq_ediv_of_nonneg (by omega),YT (n:=(r:Int) / ((500:Nat):Int)) (by omega) (by omega),YT (by omega) (by omega)]
    congr 1
   ·rw[if_neg (by omega),if_neg c,Zt2 (by omega) (by omega) (by omega) (.inr rfl),Bq,if_pos rfl]
  ·rw[if_pos rfl,Zt2 (by omega) (by split<;>omega) (by omega) (.inr rfl),Bq,if_pos rfl]
def Zzt (e l:Int):Prop:=100<=e/\e<=l/\l<=5000
def Vw (c:Zt):Prop:=Za9 (Zt.Name c)=true/\Zzt (Zt.QW c) (Zt.JY c)/\Zzt (Zt.J2 c) (Zt.ZcJ c)
theorem ZCL {c:Zt} (h:sm Yd c):(Zt.Name c).length<=4611686018427387904:=by
 refine ZhZ ?_;first | exact h.1 | exact h.2.1
theorem Znq (e l:Int):Zcf e l=some (tr (Zzt e l)):=by
 unfold Zcf Zzt;exact QB (λ_=>QB (λ_=>Zcd decide_eq_true_iff))
theorem ZgI (c:Zt):ZeQ c=some (tr (Vw c)):=by
 unfold ZeQ;exact YR (by rw[ZiQ];exact Zcd Iff.rfl) (λ_=>YR (Znq _ _) (λ_=>ZdT (Znq _ _)))
theorem Zkl (c:Zt) (h:sm Yd c):Zfc c=some (tr (Vw c)):=by
 unfold Zfc;rw[Vt (l:=[Zt.QW c,Zt.JY c,Zt.J2 c,Zt.ZcJ c]) (show List.length _<=_ by simp) (λ_ x=>(100:Int)<=x/\x<=5000) (bad:=false) (good:=tr (Za9 (Zt.Name c)=true/\Zt.QW c<=Zt.JY c/\Zt.J2 c<=Zt.ZcJ c))
  (λk x hx hk _=>by
   simp only[Zd8,show (k:Int)<((List.length [Zt.QW c,Zt.JY c,Zt.J2 c,Zt.ZcJ c]:Nat):Int) from by omega,if_true,Zp,hx,Bq,Q9];constructor
   ·intro hh;rw[if_pos (ZR hh)]
   ·intro hh;rw[if_neg (λq=>hh ((Xx _).1 q))])
  (λ_=>by
   simp only[Zd8,Int.lt_irrefl,if_false,ZcD _ (ZCL h),Bq];by_cases a:Za9 (Zt.Name c)=true
   ·rw[if_pos a]
    by_cases b:Zt.QW c<=Zt.JY c
    ·rw[if_pos b]
     congr 2;exact (Zqr (by grind)).symm
    ·rw[if_neg b,ZP (λq=>b q.2.1)]
   ·rw[if_neg a,ZP (λq=>a q.1)]),Ze9]
 congr 1;refine Vk ?_;rw[JK];simp only[List.mem_cons,List.not_mem_nil,or_false,forall_eq_or_imp,forall_eq];unfold Vw Zzt;grind
structure VOk (b:Zd) (v:ZF):Prop where
 ZC:ZF.ZC v=ZC (Zd.Design b)
 block:ZF.Block v=b
 links:ZF.links v=Zl b
 loads:ZF.loads v=(List.range (Zd.Xo b).length).map (ldF b)
 Zkb:ZF.Zkb v=(List.range (Zd.Xo b).length).map (edF b)
 extras:ZF.extras v=[]
theorem ZBq {b:Zd} (h:Xy b):∃ v,VQ b=some v/\VOk b v:=by
 obtain ⟨v,h1,h2,h3,h4,h5,h6,h7⟩:=ZwT h;exact ⟨v,h1,h2,h3,h4,h5,h6,h7⟩
theorem Zup {b:Zd} {x:Zm} {y:Pl} {n:Nat} (hd:Zzu b x y n):atI (ZC (Zd.Design b)) (Wq (Int.tdiv (Zm.To x) (2:Int)))=some y:=by
 have h0:=hd.to0;have h1:=hd.to1;rw[Int.tdiv_eq_ediv_of_nonneg h0,YT (by omega) (by omega)];exact QF (by omega) hd.place
theorem Zx6 {b:Zd} {v:ZF} (hv:VOk b v) {x:Zm} {y:Pl} {n:Nat} (hd:Zzu b x y n):ZaS v x=some (n:Int):=by
 unfold ZaS;rw[hv.ZC,Zup hd,Bq,<-hd.net]
theorem Zvx {b:Zd} (h:Xy b) {x:Zm} {y:Pl} {n:Nat} (hd:Zzu b x y n):ZhW b x=some (n:Int):=by
 unfold ZhW;rw[Xv _ h.ok.1.few,Bq,Zup hd,Bq,<-hd.net]
theorem ZDp {l:List Zz} (h:Zc6 l true) {n:Int} (hn:0<=n):∃ t,atI l (Int.tmod n (2:Int))=some t/\JA t/\∀ v∈Zz.Values t,0<=v:=by
 have e:0<=Int.tmod n 2/\Int.tmod n 2<2:=by grind
 obtain ⟨t,h1,h2⟩:=Zgi (l:=l) e.1 (by rw[h.1];exact e.2);exact ⟨t,h1,(h.2 t h2).1,(h.2 t h2).2 rfl⟩
theorem ZCt {b:Zd} {n:Nat} {w:ZB} {ld:List Int} (h:Zwj b n w ld):atI ld (0:Int)=some (ldF b n):=by
 have h1:=h.n1;have h2:=h.nl;have e:ld[0]?=some (ld[0]'(by omega)):=List.getElem?_eq_getElem _;show atI ld ((0:Nat):Int)=_;rw[Zp];unfold ldF;rw[h.prog,Bq,e];rfl
theorem ZAw {b:Zd} {n:Nat} {w:ZB} {ld:List Int} (h:Zwj b n w ld):edF b n=(ZB.ZgD w).map (sdl w ld):=by
 unfold edF;rw[Zsu h];rfl
theorem Ztb {b:Zd} (h:Xy b) {v:ZF} (hv:VOk b v) {x:Zm} {y:Pl} {n:Nat} (hd:Zzu b x y n) (hc:ZFR b x y) :
  ∃ a t1 t2,Zck v x=some a/\ZhV b x=some (a,ldF b n)/\atI (ZG.Delay a) (Int.tmod (Zm.To x) (2:Int))=some t1/\JA t1/\atI (ZG.QU a) (Int.tmod (Zm.To x) (2:Int))=some t2/\JA t2/\∀ v∈Zz.Values t2,0<=v:=by
 obtain ⟨hk,i,u,c,k,a,e1,e2,e3,e4,e5,e6,e7,e8⟩:=hc;obtain ⟨t1,f1,f2,_⟩:=ZDp e7 hd.to0;obtain ⟨t2,f3,f4,f5⟩:=ZDp e8 hd.to0;have hw:(Zd.Xo b)[n]?=some ((Zd.Xo b)[n]'hd.few):=List.getElem?_eq_getElem _;obtain ⟨ld,hN⟩:=ZKw h hw;have g1:atI (Zf.Instances (Zd.Design b)) (Xb.instance y)=some u:=by
  show atI _ y.1=_;rw[e1,Zp];exact e2
 have g1':atI (Zf.Instances (Zd.Design b)) (Z9.instance y)=some u:=g1;have g2:atI (ZE.Cells (Zd.Library b)) (Zk.Cell u)=some c:=QF e3 e4;have g3:atI (Zn.Zay c) (Zm.Index x)=some a:=by rw[e6,Zp];exact e5
 refine ⟨a,t1,t2,?_,?_,f1,f2,f3,f4,f5⟩
 ·unfold Zck
  rw[hv.ZC,hv.block,Zup hd,Bq,g1,Bq,g2,Bq,g3];rfl
 ·unfold ZhV
  rw[Xv _ h.ok.1.few,Bq,Zup hd,Bq,g1',Bq,g2,Bq,g3,Bq,show Z9.net y=(n:Int) from hd.net,hN.ref,Bq,ZCt hN];rfl
theorem ZxV {b:Zd} {v:ZF} (hv:VOk b v) {n:Nat} (hn:n<(Zd.Xo b).length):atI (ZF.loads v) (n:Int)=some (ldF b n):=by
 rw[Zp,hv.loads,List.getElem?_map,List.getElem?_range hn];rfl
theorem ZzS {b:Zd} {v:ZF} (hv:VOk b v) {n:Nat} (hn:n<(Zd.Xo b).length):atI (ZF.Zkb v) (n:Int)=some (edF b n):=by
 rw[Zp,hv.Zkb,List.getElem?_map,List.getElem?_range hn];rfl
theorem Zz0 {c:Zt} (h:Vw c) (kind:Int) (m:Int):∃ F,J9 c kind m=some F/\ZdB c kind m=some F/\0<=F/\F<=5000:=by
 obtain ⟨_,⟨a1,a2,a3⟩,⟨b1,b2,b3⟩⟩:=h;unfold J9 ZdB;by_cases k1:kind=1
 ·by_cases m0:m=0
  ·simp only[k1,m0,if_true]
   grind
  ·simp only[k1,m0,if_true,if_false]
   grind
 ·by_cases m0:m=0
  ·simp only[k1,m0,if_true,if_false]
   grind
  ·simp only[k1,m0,if_false]
   grind
theorem Zyl {q F m:Int} (q1:-1000000<=q) (q2:q<=1000000) (F0:0<=F) (F1:F<=5000) (hm:m=0\/m=1):∃ r,Zi7 q F m=some r/\Y8 (Wq (q*F)) (1000:Int) m=some r/\-5000000<=r/\r<=5000000:=by
 have p:=ZrM q1 q2 F0;obtain ⟨r,hr,hb⟩:=Zt3 (a:=q*F) (b:=1000) (m:=m) (by omega) (by omega) (by omega) hm;have hb:=hb 5000000 (by omega) (by omega);unfold Zi7;rw[Zju,YT (n:=q*F) (by omega) (by omega),hr];grind
theorem Zqt {b:Zd} (h:Xy b) {v:ZF} (hv:VOk b v) {c:Zt} (hc:Vw c) {k:Nat} {x:Zm} (hx:(Zl b)[k]?=some x) (s:Int) {m:Int} (hm:m=0\/m=1) :
  ∃ r,JC v c (k:Int) s m=some r/\Zbv b c x s m=some r/\-5000000<=r/\r<=5000000:=by
 obtain ⟨y,n,hd⟩:=Zvz h (List.mem_of_getElem? hx);obtain ⟨F,F1,F2,F3,F4⟩:=Zz0 hc (Zm.Kind x) m;have hl:atI (ZF.links v) (k:Int)=some x:=by rw[hv.links,Zp];exact hx
 unfold JC Zbv;rw[hl,Bq,Zx6 hv hd,Bq];rcases hd.kind with hC | hW
 ·obtain ⟨a,t1,t2,c1,c2,c3,c4,c5,c6,_⟩:=Ztb h hv hd hC
  obtain ⟨q,q1,q2,q3,q4⟩:=look_eq c4 s (ldF b n) hm;obtain ⟨r,r1,r2,r3,r4⟩:=Zyl q3 q4 F3 F4 hm;refine ⟨r,?_,?_,r3,r4⟩
  ·rw[if_pos hC.1,ZxV hv hd.few,Bq,c1,Bq,c3,Bq,q1,Bq,F1,Bq,r1]
   rfl
  ·rw[if_pos hC.1,c2,Bq]
   grind
 ·obtain ⟨hk,w,j,z,e1,e2,e3⟩:=hW
  obtain ⟨ld,hN⟩:=ZKw h e1;obtain ⟨f,f1,f2⟩:=ZuG hN hm;obtain ⟨g1,g2,g3⟩:=f1 z (List.mem_of_getElem? e3);obtain ⟨r,r1,r2,r3,r4⟩:=Zyl (q:=f z) (by omega) (by omega) F3 F4 hm;have hne:¬Zm.Kind x=1:=by omega
  refine ⟨r,?_,?_,r3,r4⟩
  ·rw[if_neg hne,ZzS hv hd.few,Bq,ZAw hN,e2,Zp,List.getElem?_map,e3,Option.map_some,Bq,Zju,g1,Bq,F1,Bq,r1]
   rfl
  ·rw[if_neg hne,Zvx h hd,Bq,f2,Bq,e2,Zp,List.getElem?_map,e3,Option.map_some,Bq,F2,Bq,r2]
   rfl
theorem ZuH {b:Zd} (h:Xy b) {v:ZF} (hv:VOk b v) {k:Nat} {x:Zm} (hx:(Zl b)[k]?=some x) {s:Int} (s1:-1000000<=s) (s2:s<=1000000) {m:Int} (hm:m=0\/m=1) :
  ∃ r,Xj v (k:Int) s m=some r/\ZcE b x s m=some r/\-1000000<=r/\r<=1000000:=by
 obtain ⟨y,n,hd⟩:=Zvz h (List.mem_of_getElem? hx);have hl:atI (ZF.links v) (k:Int)=some x:=by rw[hv.links,Zp];exact hx
 unfold Xj ZcE;rw[hl,Bq,Zx6 hv hd,Bq];rcases hd.kind with hC | hW
 ·obtain ⟨a,t1,t2,c1,c2,c3,c4,c5,c6,_⟩:=Ztb h hv hd hC
  obtain ⟨q,q1,q2,q3,q4⟩:=look_eq c6 s (ldF b n) hm;refine ⟨q,?_,?_,q3,q4⟩
  ·rw[if_pos hC.1,ZxV hv hd.few,Bq,c1,Bq,c5,Bq,q1,Bq,Int.min_eq_left q4]
  ·rw[if_pos hC.1,c2,Bq]
   grind
 ·obtain ⟨hk,w,j,z,e1,e2,e3⟩:=hW
  obtain ⟨ld,hN⟩:=ZKw h e1;obtain ⟨g1,g2,g3⟩:=hN.sink (List.mem_of_getElem? e3);obtain ⟨q,q1,q2,q3⟩:=ZBr (s:=s) (d:=sdl w ld z) (m:=m) s1 s2 g2 g3 hm;have hne:¬Zm.Kind x=1:=by omega
  refine ⟨Min.min q 1000000,?_,?_,by omega,by omega⟩
  ·rw[if_neg hne,ZzS hv hd.few,Bq,ZAw hN,e2,Zp,List.getElem?_map,e3,Option.map_some,Bq,q1]
   rfl
  ·rw[if_neg hne,Zvx h hd,Bq]
   unfold ZlF;rw[Zp,e1,Bq,e2,Zp,e3,Bq,Zr8 hN,Bq,g1,Bq,q3,Bq,Int.min_comm]
theorem spans_eq {b:Zd} (h:Xy b) {v:ZF} (hv:VOk b v) {c:Zt} (hc:Vw c) {k:Nat} {x:Zm} (hx:(Zl b)[k]?=some x) {s:Zx} (s1:-1000000<=Zx.Early s/\Zx.Early s<=1000000) (s2:-1000000<=Zx.Late s/\Zx.Late s<=1000000) :
  ∃ d o:Zx,ZaT v c (k:Int) s=some (d,o)/\Zfn b c x s=some (d,o)/\(-5000000<=Zx.Early d/\Zx.Early d<=5000000)/\(-5000000<=Zx.Late d/\Zx.Late d<=5000000)/\(-1000000<=Zx.Early o/\Zx.Early o<=1000000)/\(-1000000<=Zx.Late o/\Zx.Late o<=1000000):=by
 obtain ⟨d1,a1,b1,c1⟩:=Zqt h hv hc hx (Zx.Early s) (.inl rfl:(0:Int)=0\/(0:Int)=1);obtain ⟨d2,a2,b2,c2⟩:=Zqt h hv hc hx (Zx.Late s) (.inl rfl:(0:Int)=0\/(0:Int)=1);obtain ⟨d3,a3,b3,c3⟩:=Zqt h hv hc hx (Zx.Early s) (.inr rfl:(1:Int)=0\/(1:Int)=1);obtain ⟨d4,a4,b4,c4⟩:=Zqt h hv hc hx (Zx.Late s) (.inr rfl:(1:Int)=0\/(1:Int)=1);obtain ⟨o1,e1,f1,g1⟩:=ZuH h hv hx s1.1 s1.2 (.inl rfl:(0:Int)=0\/(0:Int)=1);obtain ⟨o2,e2,f2,g2⟩:=ZuH h hv hx s2.1 s2.2 (.inl rfl:(0:Int)=0\/(0:Int)=1);obtain ⟨o3,e3,f3,g3⟩:=ZuH h hv hx s1.1 s1.2 (.inr rfl:(1:Int)=0\/(1:Int)=1);obtain ⟨o4,e4,f4,g4⟩:=ZuH h hv hx s2.1 s2.2 (.inr rfl:(1:Int)=0\/(1:Int)=1);have hl:atI (ZF.links v) (k:Int)=some x:=by rw[hv.links,Zp];exact hx
 refine ⟨(Min.min d1 d2,Max.max d3 d4,()),(Min.min o1 o2,Max.max o3 o4,()),?_,?_,?_,?_,?_,?_⟩
 ·unfold ZaT
  rw[a1,a2,a3,a4,hl,hv.extras]
  simp_all
 ·unfold Zfn
  grind
 all_goals grind
def Zdq (s:Zx):Prop:=0<=Zx.Early s/\Zx.Early s<=Zx.Late s/\Zx.Late s<=1000000
theorem ZbG (s:Zx):Zbw s=some (tr (Zdq s)):=by
 unfold Zbw Zdq;exact QB (λ_=>QB (λ_=>Zcd decide_eq_true_iff))
def Za4 (s:Zx):Prop:=(-1000000000<=Zx.Early s/\Zx.Early s<=1000000000)/\(-1000000000<=Zx.Late s/\Zx.Late s<=1000000000)/\Zx.Early s<=Zx.Late s
theorem Jo (s:Zx):Zau s=some (tr (Za4 s)):=by
 unfold Zau Za4 ZjC;exact YR (ZdT (QE _ _ _)) (λ_=>YR (ZdT (QE _ _ _)) (λ_=>Zcd decide_eq_true_iff))
theorem ZgJ (s:Zx):ZcS s=some (tr (Zdq s)):=by
 unfold ZcS ZjB;refine ZgH (YR (Jo s) (λ_=>YR (ZdT (QE _ _ _)) (λ_=>ZdT (ZdT (QE _ _ _))))) ?_;unfold Zdq Za4;omega
theorem ZiW (s:Zx):ZcB s=some (tr (Za4 s)):=by
 unfold ZcB Za4;exact YR (Q9 _ _ _) (λ_=>YR (Q9 _ _ _) (λ_=>Zcd decide_eq_true_iff))
def ZdD (n:Int) (l:List Zj) (k:Nat) (x:Zj):Prop :=
 (0<=Zj.Node x/\Zj.Node x<=n-1)/\(∀ y,0<k->l[k-1]?=some y->Zj.Node y<Zj.Node x)/\Za4 (Zj.Ye x)/\Zdq (Zj.QU x)
theorem Zoo {b:Zd} (h:Xy b) (l:List Zj) (hl:l.length<=1048576):Zfm b l=some (tr (Zfu l (ZdD (2*((ZC (Zd.Design b)).length:Int)) l))):=by
 have hf:=h.ok.1.few;have hpl:=XE hf;unfold Zfm Jm;rw[Xv _ hf,Bq,Bq,YT (n:=2*((ZC (Zd.Design b)).length:Int)) (by omega) (by omega)];rw[Vt (l:=l) (show Len l by unfold Len;omega) (ZdD (2*((ZC (Zd.Design b)).length:Int)) l) (bad:=false) (good:=true)
  (step:=λv=>Zaq l (2*((ZC (Zd.Design b)).length:Int)) v.1)
  (λk x hx hk _=>by
   simp only[Zaq,show (k:Int)<(l.length:Int) from by omega,if_true,Zp,hx,Bq,Q9,ZiW,ZbG,YT (show (-9223372036854775808:Int)<=2*((ZC (Zd.Design b)).length:Int)-1 by omega) (by omega)];unfold ZdD;have fin:∀ (Q:Prop),(Q<->Za4 (Zj.Ye x)/\Zdq (Zj.QU x))->((Q->(if tr (Za4 (Zj.Ye x))=true then if tr (Zdq (Zj.QU x))=true then some (.inl (Wq ((k:Int)+1),())) else some (.inr false) else some (.inr false):Option ((Int×Unit) ⊕ Bool))=some (.inl (Wq ((k:Int)+1),())))/\
     (¬Q->(if tr (Za4 (Zj.Ye x))=true then if tr (Zdq (Zj.QU x))=true then some (.inl (Wq ((k:Int)+1),())) else some (.inr false) else some (.inr false):Option ((Int×Unit) ⊕ Bool))=some (.inr false))):=by
    intro Q hQ;constructor
    ·intro q
     rw[if_pos (ZR (hQ.1 q).1),if_pos (ZR (hQ.1 q).2)]
    ·intro q
     by_cases s1:Za4 (Zj.Ye x)
     ·rw[if_pos (ZR s1),if_neg (λs2=>q (hQ.2 ⟨s1,(Xx _).1 s2⟩))]
     ·rw[if_neg (λs2=>s1 ((Xx _).1 s2))]
   by_cases q1:0<=Zj.Node x/\Zj.Node x<=2*((ZC (Zd.Design b)).length:Int)-1
   ·rw[if_pos (ZR q1)]
    by_cases hk0:k=0
    ·subst hk0
     rw[if_neg (show ¬(0:Int)<((0:Nat):Int) by omega)];refine fin _ ⟨λq=>q.2.2,λq=>⟨q1,λy h=>by omega,q⟩⟩
    ·have hy:l[k-1]?=some l[k-1]:=List.getElem?_eq_getElem (by omega)
     have hy2:atI l ((k:Int)-1)=some l[k-1]:=QF (by omega) (by rw[<-hy];congr 1;omega);generalize l[k-1]=y at hy hy2;rw[if_pos (by omega),YT (n:=(k:Int)-1) (by omega) (by omega),hy2,Bq];by_cases q2:Zj.Node x<=Zj.Node y
     ·rw[if_pos q2]
      exact ⟨λq=>by have:=q.2.1 y (by omega) hy;omega,λ_=>rfl⟩
     ·rw[if_neg q2]
      refine fin _ ⟨λq=>q.2.2,λq=>⟨q1,λz _ hz=>?_,q⟩⟩;rw[hy] at hz;injection hz with hz;subst hz;omega
   ·rw[if_neg (λq=>q1 ((Xx _).1 q))]
    exact ⟨λq=>absurd q.1 q1,λ_=>rfl⟩)
  (λ_=>by simp only[Zaq,Int.lt_irrefl,if_false]),ZlC]
theorem Zig {b:Zd} (h:Xy b) (v:ZF) (hv:ZF.ZC v=ZC (Zd.Design b)) (l:List Zj) (hl:l.length<=1048576):Zc8 v l=some (tr (Zfu l (ZdD (2*((ZC (Zd.Design b)).length:Int)) l))):=by
 have hf:=h.ok.1.few;have hpl:=XE hf;have hnode:∀ n,ZgM v n=some (tr (0<=n/\n<=2*((ZC (Zd.Design b)).length:Int)-1)):=by
  intro n;unfold ZgM Xc;rw[show YX (ZF.ZC v)=some ((ZF.ZC v).length:Int) from rfl,Bq,Bq,hv,YT (n:=2*((ZC (Zd.Design b)).length:Int)) (by omega) (by omega),YT (by omega) (by omega)];exact ZdT (QE _ _ _)
 unfold Zc8;rw[Vt (l:=l) (show Len l by unfold Len;omega) (ZdD (2*((ZC (Zd.Design b)).length:Int)) l) (bad:=false) (good:=true)
  (step:=λu=>Vx v l u.1)
  (λk x hx hk _=>by
   simp only[Vx,show (k:Int)<(l.length:Int) from by omega,if_true,Zp,hx,Bq,hnode,Jo,ZgJ];unfold ZdD;by_cases q1:0<=Zj.Node x/\Zj.Node x<=2*((ZC (Zd.Design b)).length:Int)-1
   ·rw[if_pos (ZR q1)]
    by_cases q3:Za4 (Zj.Ye x)
    ·rw[if_pos (ZR q3)]
     by_cases q4:Zdq (Zj.QU x)
     ·rw[if_pos (ZR q4)]
      by_cases hk0:k=0
      ·subst hk0
       rw[if_neg (show ¬(0:Int)<((0:Nat):Int) by omega)];exact ⟨λ_=>rfl,λq=>absurd ⟨q1,λy h=>by omega,q3,q4⟩ q⟩
      ·have hy:l[k-1]?=some l[k-1]:=List.getElem?_eq_getElem (by omega)
       have hy2:atI l ((k:Int)-1)=some l[k-1]:=QF (by omega) (by rw[<-hy];congr 1;omega);generalize l[k-1]=y at hy hy2;rw[if_pos (by omega),YT (n:=(k:Int)-1) (by omega) (by omega),hy2,Bq];by_cases q2:Zj.Node x<=Zj.Node y
       ·rw[if_pos q2]
        exact ⟨λq=>by have:=q.2.1 y (by omega) hy;omega,λ_=>rfl⟩
       ·rw[if_neg q2]
        refine ⟨λ_=>rfl,λq=>absurd ⟨q1,λz _ hz=>?_,q3,q4⟩ q⟩;rw[hy] at hz;injection hz with hz;subst hz;omega
     ·rw[if_neg (λq=>q4 ((Xx _).1 q))]
      exact ⟨λq=>absurd q.2.2.2 q4,λ_=>rfl⟩
    ·rw[if_neg (λq=>q3 ((Xx _).1 q))]
     exact ⟨λq=>absurd q.2.2.1 q3,λ_=>rfl⟩
   ·rw[if_neg (λq=>q1 ((Xx _).1 q))]
    exact ⟨λq=>absurd q.1 q1,λ_=>rfl⟩)
  (λ_=>by simp only[Vx,Int.lt_irrefl,if_false]),ZlC]
theorem Zqp {b:Zd} (h:Few (Zd.Design b)):Jm b=some (2*((ZC (Zd.Design b)).length:Int)):=by
 have hpl:=XE h;unfold Jm;rw[Xv _ h,Bq,YT (by omega) (by omega)]
abbrev NSt:=Option (Zx×Zx)
def Zb7:Zx:=((0:Int),(0:Int),())
def hul (a b:Zx):Zx:=(Min.min (Zx.Early a) (Zx.Early b),Max.max (Zx.Late a) (Zx.Late b),())
def ZAm (st:NSt) (a s:Zx):NSt:=match st with
 | none=>some (a,s)
 | some q=>some (hul q.1 a,hul q.2 s)
def ZuA (a d:Zx):Zx:=(Wq (Zx.Early a+Zx.Early d),Wq (Zx.Late a+Zx.Late d),())
def encI (node:Int) (st:NSt):Int×Int×Int×Int×Int×Bool×Unit:=match st with
 | none=>(node,0,0,0,0,false,())
 | some q=>(node,Zx.Early q.1,Zx.Late q.1,Zx.Early q.2,Zx.Late q.2,true,())
def ZDj (node:Int) (st:NSt):Bool×Zj:=match st with
 | none=>(false,((0:Int),Zb7,Zb7,()))
 | some q=>(true,(node,q.1,q.2,()))
theorem ZxN (a b:Zx):hul a b=hul b a:=by unfold hul;rw[Int.min_comm,Int.max_comm]
noncomputable def spn (b:Zd) (c:Zt) (x:Zm) (s:Zx):Zx×Zx:=(Zfn b c x s).getD (Zb7,Zb7)
noncomputable def ZuT (b:Zd) (c:Zt) (t:Zw) (x:Zm) (st:NSt):NSt :=
 if (atI (Zw.Reached t) (Zm.From x)).getD false=true then ZAm st (ZuA ((atI (Zw.Ye t) (Zm.From x)).getD Zb7) (spn b c x ((atI (Zw.QU t) (Zm.From x)).getD Zb7)).1) (spn b c x ((atI (Zw.QU t) (Zm.From x)).getD Zb7)).2 else st
def ZBz (s:Zx):Prop:=(-1000000<=Zx.Early s/\Zx.Early s<=1000000)/\(-1000000<=Zx.Late s/\Zx.Late s<=1000000)
structure ZlJ (n:Nat) (t:Zw):Prop where
 lr:(Zw.Reached t).length=n
 la:(Zw.Ye t).length=n
 ls:(Zw.QU t).length=n
 sl:∀ s∈Zw.QU t,ZBz s
theorem ZwA {b:Zd} (h:Xy b) {t:Zw} (ht:ZlJ (2*(ZC (Zd.Design b)).length) t) {x:Zm} (hx:x∈Zl b) :
  ∃ r a s,atI (Zw.Reached t) (Zm.From x)=some r/\atI (Zw.Ye t) (Zm.From x)=some a/\atI (Zw.QU t) (Zm.From x)=some s/\ZBz s:=by
 have hf:=(Zg0 h hx).1;obtain ⟨r,hr,_⟩:=Zgi (l:=Zw.Reached t) hf.1 (by rw[ht.lr];omega);obtain ⟨a,ha,_⟩:=Zgi (l:=Zw.Ye t) hf.1 (by rw[ht.la];omega);obtain ⟨s,hs,hm⟩:=Zgi (l:=Zw.QU t) hf.1 (by rw[ht.ls];omega);exact ⟨r,a,s,hr,ha,hs,ht.sl s hm⟩
theorem Zvo (node:Int) (st:NSt) (a s:Zx):∃ j,JU (node,((encI node st).2.1,(encI node st).2.2.1,()),((encI node st).2.2.2.1,(encI node st).2.2.2.2.1,()),()) (encI node st).2.2.2.2.2.1 a s=some j/\(j.fst.fst,j.fst.snd.fst.fst,j.fst.snd.fst.snd.fst,j.fst.snd.snd.fst.fst,j.fst.snd.snd.fst.snd.fst,j.snd,())=encI node (ZAm st a s):=by
 cases st with
 | none=>exact ⟨_,rfl,rfl⟩
 | some q=>exact ⟨_,rfl,rfl⟩
theorem ZsB {b:Zd} (h:Xy b) {v:ZF} (hv:VOk b v) {c:Zt} (hc:Vw c) {live:List Bool} {t:Zw} (ht:ZlJ (2*(ZC (Zd.Design b)).length) t) {L:List Int} {node:Int} {m k:Nat} {x:Zm} (hm:L[m]?=some (k:Int)) (hx:(Zl b)[k]?=some x) (hL:m<=1048576) (st:NSt) :
  XD (v,live,()) c t L (m:Int) (encI node st).1 (encI node st).2.1 (encI node st).2.2.1 (encI node st).2.2.2.1 (encI node st).2.2.2.2.1 (encI node st).2.2.2.2.2.1=some (.inl (((m+1:Nat):Int),encI node (ZuT b c t x st))):=by
 have hk:=(List.getElem?_eq_some_iff.1 hm).1;obtain ⟨r,a,s,hr,ha,hs,hsb⟩:=ZwA h ht (List.mem_of_getElem? hx);obtain ⟨d,o,e1,e2,_⟩:=spans_eq h hv hc hx hsb.1 hsb.2;have hl:atI (ZF.links (ZI.view ((v,live,()):ZI))) (k:Int)=some x:=by
  show atI (ZF.links v) (k:Int)=some x;rw[hv.links,Zp];exact hx
 have hsp:spn b c x s=(d,o):=by unfold spn;rw[e2];rfl
 have hu:ZuT b c t x st=if r=true then ZAm st (ZuA a d) o else st:=by
  unfold ZuT;rw[hr,ha,hs];simp only[Option.getD_some,hsp]
 have hn:(encI node st).1=node:=by cases st<;>rfl
 obtain ⟨j,j1,j2⟩:=Zvo node st (ZuA a d) o;unfold XD;rw[if_pos (by omega),Zp,hm,Bq,hl,Bq,hr,Bq,hu];by_cases q:r=true
 ·rw[if_pos q,if_pos q,hs,Bq]
  show (ZaT v c (k:Int) s).bind _=_;rw[e1,Bq,ha,Bq];show (JU _ _ (ZuA a d) o).bind _=_;rw[hn,j1,Bq,Xm hL,<-j2]
 ·rw[if_neg q,if_neg q,Xm hL]
theorem Zue {g:ZI} {c:Zt} {t:Zw} {L:List Int} {node:Int} (st:NSt) :
  XD g c t L (L.length:Int) (encI node st).1 (encI node st).2.1 (encI node st).2.2.1 (encI node st).2.2.2.1 (encI node st).2.2.2.2.1 (encI node st).2.2.2.2.2.1=some (.inr (ZDj node st)):=by
 unfold XD;rw[if_neg (Int.lt_irrefl _)];cases st<;>rfl
theorem ZsA {b:Zd} (h:Xy b) {v:ZF} (hv:VOk b v) {c:Zt} (hc:Vw c) {live:List Bool} {t:Zw} (ht:ZlJ (2*(ZC (Zd.Design b)).length) t) {L:List Int} {node:Int} (hl:L.length<=1048576) {f:Int->NSt->NSt}
  (hf:∀ y∈L,∃ (k:Nat) (x:Zm),y=(k:Int)/\(Zl b)[k]?=some x/\∀ st,f y st=ZuT b c t x st) (st0:NSt) :
  Zo (λu=>XD (v,live,()) c t L u.1 u.2.1 u.2.2.1 u.2.2.2.1 u.2.2.2.2.1 u.2.2.2.2.2.1 u.2.2.2.2.2.2.1) ((0:Int),encI node st0)=some (ZDj node (Qe (λ_ y st=>f y st) 0 L st0)):=by
 refine ZbI (l:=L) (by unfold Len;omega) (λst i=>(i,encI node st)) (f:=λ_ y st=>f y st) (s0:=st0) (λ_ _=>True) trivial (λm y st hy _ _=>⟨?_,trivial⟩) (λst _ he=>?_)
 ·have hm:=(List.getElem?_eq_some_iff.1 hy).1
  obtain ⟨k,x,rfl,hx,hu⟩:=hf y (List.mem_of_getElem? hy);rw[hu,Xm (by omega)];exact ZsB h hv hc ht hy hx (by omega) st
 ·rw[<-he]
  exact Zue st
def encS (node:Int) (st:NSt) (i:Int):Bool×Int×Int×Int×Int×Int×Int×Unit:=match st with
 | none=>(false,i,0,0,0,0,0,())
 | some q=>(true,i,node,Zx.Early q.1,Zx.Late q.1,Zx.Early q.2,Zx.Late q.2,())
theorem Zs2 {b:Zd} (h:Xy b) {v:ZF} (hv:VOk b v) {c:Zt} (hc:Vw c) {live:List Bool} {t:Zw} (ht:ZlJ (2*(ZC (Zd.Design b)).length) t) {node:Int} {k:Nat} {x:Zm} {lv:Bool} (hx:(Zl b)[k]?=some x) (hlv:live[k]?=some lv) (hk:k<=1048576) (st:NSt) :
  Vh b c (Zl b) live t node (encS node st (k:Int)).1 (k:Int) (encS node st (k:Int)).2.2.1 (encS node st (k:Int)).2.2.2.1 (encS node st (k:Int)).2.2.2.2.1 (encS node st (k:Int)).2.2.2.2.2.1 (encS node st (k:Int)).2.2.2.2.2.2.1=some (.inl (encS node (if lv=true then (if Zm.To x=node then ZuT b c t x st else st) else st) ((k+1:Nat):Int))):=by
 have hkl:=(List.getElem?_eq_some_iff.1 hx).1;obtain ⟨r,a,s,hr,ha,hs,hsb⟩:=ZwA h ht (List.mem_of_getElem? hx);obtain ⟨d,o,e1,e2,_⟩:=spans_eq h hv hc hx hsb.1 hsb.2;have hsp:spn b c x s=(d,o):=by unfold spn;rw[e2];rfl
 have hu:ZuT b c t x st=if r=true then ZAm st (ZuA a d) o else st:=by
  unfold ZuT;rw[hr,ha,hs];simp only[Option.getD_some,hsp]
 unfold Vh;rw[if_pos (by omega),Zp,hx,Bq,Zp,hlv,Bq,Xm hk];by_cases q1:lv=true
 ·rw[if_pos q1,if_pos q1]
  by_cases q2:Zm.To x=node
  ·rw[if_pos q2,if_pos q2,hr,Bq,hu]
   by_cases q3:r=true
   ·rw[if_pos q3,if_pos q3,hs,Bq,e2,Bq,ha,Bq]
    cases st with
    | none=>rfl
    | some q =>
     show some (Sum.inl (true,((k+1:Nat):Int),node,Zx.Early (hul (ZuA a d) q.1),Zx.Late (hul (ZuA a d) q.1),Zx.Early (hul o q.2),Zx.Late (hul o q.2),()))=_;rw[ZxN (ZuA a d),ZxN o];rfl
   ·rw[if_neg q3,if_neg q3]
    cases st<;>rfl
  ·rw[if_neg q2,if_neg q2]
   cases st<;>rfl
 ·rw[if_neg q1,if_neg q1]
  cases st<;>rfl
def toF (live:List Bool) (node:Int) (k:Nat) (x:Zm):List Int:=if (live[k]?).getD false=true then (if Zm.To x=node then [(k:Int)] else []) else []
def toL (b:Zd) (live:List Bool) (node:Int):List Int:=cat (toF live node) 0 (Zl b)
theorem ZFx (live:List Bool) (node:Int) (k:Nat) (x:Zm):(toF live node k x).length<=1:=by
 unfold toF;grind
theorem ZBh {b:Zd} (h:Xy b) (live:List Bool) (node:Int) (n:Nat):(cat (toF live node) 0 ((Zl b).take n)).length<=6000:=by
 have h1:=V4 (f:=toF live node) (c:=1) (l:=(Zl b).take n) (m:=0) (λk x _=>ZFx live node k x);have h2:=Y7 h;grind
theorem ZwF {b:Zd} (h:Xy b) {v:ZF} (hv:VOk b v) {live:List Bool} (hl:live.length=(Zl b).length) (node:Int):ZeT (v,live,()) node=some (toL b live node):=by
 have h6:=Y7 h;have el:ZF.links (ZI.view ((v,live,()):ZI))=Zl b:=hv.links;have ev:ZI.live ((v,live,()):ZI)=live:=rfl;unfold ZeT Qs;have:=XM (l:=Zl b) (ρ:=List Int) (toF live node) [] (step:=λu=>YL (v,live,()) (node,()) u.1 u.2.1) (good:=toL b live node)
  (λk x hx hk=>by
   have hlv:live[k]?=some (live[k]'(by omega)):=List.getElem?_eq_getElem _;have hlen:=ZBh h live node k;simp only[YL,el,ev,show (k:Int)<((Zl b).length:Int) from by omega,if_true,Zp,hx,hlv,Bq,ZgK,List.nil_append,Xm (show k<=1048576 by omega)];unfold toF at *;rw[hlv];simp only[Option.getD_some];by_cases q1:live[k]'(by omega)=true
   ·rw[if_pos q1,if_pos q1]
    by_cases q2:Zm.To x=node
    ·rw[if_pos (decide_eq_true q2),if_pos q2,Zh (by grind)]
    grind
   grind)
  (by simp only[YL,el,Int.lt_irrefl,if_false,List.nil_append];rfl)
 rw[this];rfl
theorem Zvf {β σ:Type} (f:β->σ->σ):∀ (l:List β) (m n:Nat) (s:σ),Qe (λ_ y s=>f y s) m l s=Qe (λ_ y s=>f y s) n l s
 | [],_,_,_=>rfl
 | x::l,m,n,s=>by simp only[Qe];exact Zvf f l _ _ _
theorem ZnF {α β σ:Type} {g:Nat->α->List β} (f:β->σ->σ):∀ (l:List α) (m:Nat) (s:σ),Qe (λ_ y s=>f y s) 0 (cat g m l) s=Qe (λk x s=>Qe (λ_ y s=>f y s) 0 (g k x) s) m l s
 | [],_,_=>rfl
 | x::l,m,s=>by
  show Qe (λ_ y s=>f y s) 0 (g m x++cat g (m+1) l) s=_;rw[Zic,Zvf f (cat g (m+1) l) _ 0,ZnF f l (m+1)];rfl
theorem ZmL {α σ:Type} {f g:Nat->α->σ->σ}:∀ (l:List α) (m:Nat) (s:σ),(∀ k x s,l[k]?=some x->f (m+k) x s=g (m+k) x s)->Qe f m l s=Qe g m l s
 | [],_,_,_=>rfl
 | x::l,m,s,h=>by
  simp only[Qe];have h0:=h 0 x s rfl;rw[Nat.add_zero] at h0;rw[h0];refine ZmL l (m+1) _ λk y s hy=>?_;rw[show m+1+k=m+(k+1) by omega]
  simp_all
def Zj2 (l:List Zj) (node:Int):NSt:=Qe (λ_ x st=>if Zj.Node x=node then some (Zj.Ye x,Zj.QU x) else st) 0 l none
def Zxg (l:List Zj):Prop:=∀ (i j:Nat) (x y:Zj),l[i]?=some x->l[j]?=some y->Zj.Node x=Zj.Node y->i=j
theorem ZuM {l:List Zj} (hl:Len l) {b:Zd} {c:Zt} {L:List Zm} {live:List Bool} {t:Zw} {node:Int} {R:Bool×Zj}
  (hR:Zo (λv=>Vh b c L live t node v.1 v.2.1 v.2.2.1 v.2.2.2.1 v.2.2.2.2.1 v.2.2.2.2.2.1 v.2.2.2.2.2.2.1) (encS node (Zj2 l node) 0)=some (.inr R)):Zbb b c L live l t node=some R:=by
 unfold Zbb;refine ZbI (l:=l) hl (λst i=>encS node st i) (f:=λ_ x st=>if Zj.Node x=node then some (Zj.Ye x,Zj.QU x) else st) (s0:=none) (λ_ _=>True) trivial (λk x st hx _ _=>⟨?_,trivial⟩) (λst _ he=>?_)
 ·have hk:=(List.getElem?_eq_some_iff.1 hx).1
  have e:∀ st:NSt,(encS node st (k:Int)).2.1=(k:Int):=λst=>by cases st<;>rfl
  show Zap b c L live l t node (encS node st (k:Int)).1 (encS node st (k:Int)).2.1 (encS node st (k:Int)).2.2.1 (encS node st (k:Int)).2.2.2.1 (encS node st (k:Int)).2.2.2.2.1 (encS node st (k:Int)).2.2.2.2.2.1 (encS node st (k:Int)).2.2.2.2.2.2.1=_;rw[e];unfold Zap;rw[if_pos (by omega),Zp,hx,Bq];by_cases q:Zj.Node x=node
  ·rw[if_pos q,if_pos q,q]
   rfl
  ·rw[if_neg q,if_neg q]
   cases st<;>rfl
 ·have es:st=Zj2 l node:=he
  subst es;have e:∀ st:NSt,(encS node st (l.length:Int)).2.1=(l.length:Int):=λst=>by cases st<;>rfl
  show Zap b c L live l t node (encS node (Zj2 l node) (l.length:Int)).1 (encS node (Zj2 l node) (l.length:Int)).2.1 (encS node (Zj2 l node) (l.length:Int)).2.2.1 (encS node (Zj2 l node) (l.length:Int)).2.2.2.1 (encS node (Zj2 l node) (l.length:Int)).2.2.2.2.1 (encS node (Zj2 l node) (l.length:Int)).2.2.2.2.2.1 (encS node (Zj2 l node) (l.length:Int)).2.2.2.2.2.2.1=_;rw[e];unfold Zap;rw[if_neg (Int.lt_irrefl _),<-hR];cases Zj2 l node<;>rfl
theorem Zs1 {b:Zd} (h:Xy b) {v:ZF} (hv:VOk b v) {c:Zt} (hc:Vw c) {live:List Bool} (hl:live.length=(Zl b).length) {t:Zw} (ht:ZlJ (2*(ZC (Zd.Design b)).length) t) {node:Int} (st0:NSt) :
  Zo (λv=>Vh b c (Zl b) live t node v.1 v.2.1 v.2.2.1 v.2.2.2.1 v.2.2.2.2.1 v.2.2.2.2.2.1 v.2.2.2.2.2.2.1) (encS node st0 0)=some (.inr (ZDj node (Qe (λk x st=>if (live[k]?).getD false=true then (if Zm.To x=node then ZuT b c t x st else st) else st) 0 (Zl b) st0))):=by
 have h6:=Y7 h;refine ZbI (l:=Zl b) (by unfold Len;omega) (λst i=>encS node st i) (f:=λk x st=>if (live[k]?).getD false=true then (if Zm.To x=node then ZuT b c t x st else st) else st) (s0:=st0) (λ_ _=>True) trivial (λk x st hx _ _=>⟨?_,trivial⟩) (λst _ he=>?_)
 ·have hk:=(List.getElem?_eq_some_iff.1 hx).1
  have hlv:live[k]?=some (live[k]'(by omega)):=List.getElem?_eq_getElem _;have e:∀ st:NSt,(encS node st (k:Int)).2.1=(k:Int):=λst=>by cases st<;>rfl
  have:=Zs2 h hv hc ht (node:=node) hx hlv (by omega) st;rw[hlv,Option.getD_some,Xm (by omega),<-this];grind
 ·rw[<-he]
  have e:∀ st:NSt,(encS node st ((Zl b).length:Int)).2.1=((Zl b).length:Int):=λst=>by cases st<;>rfl
  show Vh b c (Zl b) live t node (encS node st ((Zl b).length:Int)).1 (encS node st ((Zl b).length:Int)).2.1 _ _ _ _ _=_;rw[e];unfold Vh;rw[if_neg (Int.lt_irrefl _)];cases st<;>rfl
theorem ZuO {node:Int}:∀ (l:List Zj) (m:Nat) (st:NSt),(∀ x∈l,Zj.Node x≠node)->Qe (λ_ x st=>if Zj.Node x=node then some (Zj.Ye x,Zj.QU x) else st) m l st=st
 | [],_,_,_=>rfl
 | x::l,m,st,h=>by
  simp only[Qe];rw[if_neg (h x List.mem_cons_self)];exact ZuO l (m+1) st λy hy=>h y (List.mem_cons_of_mem _ hy)
theorem ZCP {l:List Zj} (h1:Zxg l) {i:Nat} {x:Zj} (hx:l[i]?=some x) {node:Int} (hn:Zj.Node x=node):Zj2 l node=some (Zj.Ye x,Zj.QU x):=by
 have hi:=(List.getElem?_eq_some_iff.1 hx).1;have e:l=l.take i++x::l.drop (i+1):=by
  have:=List.take_append_drop i l;rw[List.drop_eq_getElem_cons hi,(List.getElem?_eq_some_iff.1 hx).2] at this;exact this.symm
 have hrest:∀ y∈l.drop (i+1),Zj.Node y≠node:=λy hy q=>by
  obtain ⟨j,hj⟩:=List.mem_iff_getElem?.1 hy;rw[List.getElem?_drop] at hj;have:=h1 i (i+1+j) x y hx hj (by rw[hn,q]);omega
 unfold Zj2;rw[e,Zic];simp only[Qe];rw[if_pos hn];exact ZuO _ _ _ hrest
theorem Zw5 {l:List Zj} (hl:Len l) (h1:Zxg l) (node:Int):∃ r:Zj×Bool,VO l node=some r/\(r.2=true->Zj2 l node=some (Zj.Ye r.1,Zj.QU r.1))/\(r.2=false->Zj2 l node=none):=by
 unfold VO;rw[Y9 hl (λx=>decide (Zj.Node x=node)) (λx _=>rfl),Bq];unfold Za5;cases e:l.findIdx? (λx=>decide (Zj.Node x=node)) with
 | none =>
  rw[if_neg (by decide)];refine ⟨_,rfl,(λq=>Bool.noConfusion q),λ_=>?_⟩;rw[List.findIdx?_eq_none_iff] at e;exact ZuO l 0 none λx hx q=>by grind
 | some i =>
  rw[List.findIdx?_eq_some_iff_getElem] at e;obtain ⟨hi,hp,_⟩:=e;have hx:l[i]?=some l[i]:=List.getElem?_eq_getElem hi;dsimp only;rw[if_pos (by omega),Zp,hx,Bq];exact ⟨_,rfl,λ_=>ZCP h1 hx (of_decide_eq_true hp),λq=>Bool.noConfusion q⟩
noncomputable def ZiC (b:Zd) (c:Zt) (live:List Bool) (l:List Zj) (t:Zw) (node:Int):NSt:=Qe (λk x st=>if (live[k]?).getD false=true then (if Zm.To x=node then ZuT b c t x st else st) else st) 0 (Zl b) (Zj2 l node)
theorem Zv3 {b:Zd} (h:Xy b) {v:ZF} (hv:VOk b v) {c:Zt} (hc:Vw c) {live:List Bool} (hl:live.length=(Zl b).length) {t:Zw} (ht:ZlJ (2*(ZC (Zd.Design b)).length) t) {l:List Zj} (hs:Len l) (node:Int) :
  Zbb b c (Zl b) live l t node=some (ZDj node (ZiC b c live l t node)) :=
 ZuM hs (Zs1 h hv hc hl ht (Zj2 l node))
theorem Zvp {b:Zd} (h:Xy b) {v:ZF} (hv:VOk b v) {c:Zt} (hc:Vw c) {live:List Bool} (hl:live.length=(Zl b).length) {t:Zw} (ht:ZlJ (2*(ZC (Zd.Design b)).length) t) {l:List Zj} (hs:Len l) (h1:Zxg l) (node:Int) :
  Qr (v,live,()) c l t node=some (ZDj node (ZiC b c live l t node)):=by
 obtain ⟨r,r1,r2,r3⟩:=Zw5 hs h1 node;have hlen:=ZBh h live node (Zl b).length;rw[List.take_length] at hlen;have hto:=ZwF h hv hl node
 let f:Int->NSt->NSt:=λy st=>match (Zl b)[y.toNat]? with
  | some x=>ZuT b c t x st
  | none=>st
 have hf:∀ y∈toL b live node,∃ (k:Nat) (x:Zm),y=(k:Int)/\(Zl b)[k]?=some x/\∀ st,f y st=ZuT b c t x st:=λy hy=>by
  obtain ⟨k,x,hx,hyx⟩:=Qj.1 hy;rw[Nat.zero_add] at hyx;unfold toF at hyx;grind
 have key:=ZsA h hv hc ht (live:=live) (L:=toL b live node) (node:=node) (by unfold toL;omega) hf (Zj2 l node);have efold:Qe (λ_ y st=>f y st) 0 (toL b live node) (Zj2 l node)=ZiC b c live l t node:=by
  unfold toL ZiC;rw[ZnF f];refine ZmL _ _ _ λk x st hx=>?_;rw[Nat.zero_add];unfold toF;split
  ·split
   ·show (match (Zl b)[((k:Nat):Int).toNat]? with
     | some x=>ZuT b c t x st
     | none=>st)=_
    grind
   ·rfl
  ·rfl
 rw[efold] at key;unfold Qr;rw[r1,Bq,hto];cases e:r.2 with
 | true =>
  rw[if_pos rfl];rw[r2 e] at key;exact key
 | false =>
  rw[if_neg (by decide),Bq];rw[r3 e] at key;exact key
def cw (live:List Bool) (out:List Int) (v:Int) (k:Nat) (x:Zm):Nat:=if (live[k]?).getD false=true then (if Zm.To x=v then (if Zm.From x∈out then 0 else 1) else 0) else 0
def ZkU (live:List Bool) (L:List Zm) (out:List Int) (v:Int):Nat:=Qe (λk x s=>s+cw live out v k x) 0 L 0
def nxt (live:List Bool) (L:List Zm) (n:Nat) (out:List Int):Option Nat:=(List.range n).find? λv=>decide ((v:Int) ∉ out)&&decide (ZkU live L out (v:Int)=0)
def ZvH (live:List Bool) (L:List Zm) (n:Nat):Nat->List Int->List Int×Bool
 | 0,out=>(out,true)
 | m+1,out=>match nxt live L n out with
  | none=>([],false)
  | some v=>ZvH live L n m (out++[(v:Int)])
def Zpg (n:Nat) (p:Nat->Bool):List Bool:=(List.range n).map p
theorem Zga {n:Nat} {p:Nat->Bool} {v:Nat} (h:v<n):(Zpg n p)[v]?=some (p v):=by
 unfold Zpg;grind
theorem Zqx (n:Nat) (p:Nat->Bool):(Zpg n p).length=n:=by unfold Zpg;simp
theorem ZxZ {n:Nat} {p q:Nat->Bool} {i:Nat} {b:Bool} (hi:i<n) (h1:q i=b) (h2:∀ j,j≠i->q j=p j):List.set (Zpg n p) i b=Zpg n q:=by
 apply List.ext_getElem?;intro j;rw[List.getElem?_set];by_cases c:i=j
 ·subst c
  rw[if_pos rfl,if_pos (by rw[Zqx];exact hi),Zga hi,h1]
 ·rw[if_neg c]
  by_cases hj:j<n
  ·rw[Zga hj,Zga hj,h2 j (λe=>c e.symm)]
  ·rw[List.getElem?_eq_none (by rw[Zqx];omega),List.getElem?_eq_none (by rw[Zqx];omega)]
theorem Ztt (n:Nat):List.replicate n false=Zpg n λ_=>false:=by
 apply List.ext_getElem?;intro j;by_cases hj:j<n
 ·rw[Zga hj,List.getElem?_replicate,if_pos hj]
 ·rw[List.getElem?_eq_none (by grind),List.getElem?_eq_none (by rw[Zqx];omega)]
structure Zzl (live:List Bool) (L:List Zm) (n:Nat):Prop where
 few:L.length<=6000
 ll:live.length=L.length
 n0:n<=1000
 bd:∀ x∈L,(0<=Zm.From x/\Zm.From x<(n:Int))/\0<=Zm.To x/\Zm.To x<(n:Int)
theorem Zb9 {live:List Bool} {L:List Zm} {out:List Int} {v:Int} {k:Nat} {x:Zm} (hx:L[k]?=some x):ZkU live (L.take (k+1)) out v=ZkU live (L.take k) out v+cw live out v k x:=by
 unfold ZkU;rw[ZcN hx]
theorem Zzd {live:List Bool} {L:List Zm} {n:Nat} (h:Zzl live L n) {out:List Int} {Q:(List Int×List Bool×Unit) ⊕ (List Int×Bool)}
  (hQ:Zo (λv=>XJ (n:Int) out (Zpg n λv=>decide ((v:Int)∈out)) (Zpg n λv=>decide (ZkU live L out (v:Int)≠0)) v.1) ((0:Int),())=some (.inr Q)) :
  Zo (λv=>JH (n:Int) L live out (Zpg n λv=>decide ((v:Int)∈out)) v.1 v.2.1) ((0:Int),List.replicate (Int.toNat (n:Int)) false,())=some Q:=by
 have hf:=h.few;have hll:=h.ll;refine Yb L.length (λk v=>v=((k:Int),Zpg n (λv=>decide (ZkU live (L.take k) out (v:Int)≠0)),())) _ ?_ ?_ ?_
 ·rw[Int.toNat_natCast,Ztt]
  rfl
 ·rintro k _ hkl rfl
  have hx:L[k]?=some (L[k]'(by omega)):=List.getElem?_eq_getElem _;have hlv:live[k]?=some (live[k]'(by omega)):=List.getElem?_eq_getElem _;generalize L[k]'(by omega)=x at hx;generalize live[k]'(by omega)=lv at hlv;obtain ⟨⟨f0,f1⟩,t0,t1⟩:=h.bd x (List.mem_of_getElem? hx);have hfrom:atI (Zpg n λv=>decide ((v:Int)∈out)) (Zm.From x)=some (decide (Zm.From x∈out)):=by
   refine QF f0 ?_;rw[Zga (by omega),show ((Zm.From x).toNat:Int)=Zm.From x by omega]
  have hto:∀ p:Nat->Bool,atI (Zpg n p) (Zm.To x)=some (p (Zm.To x).toNat):=λp=>QF t0 (Zga (by omega));refine .inl ⟨(((k+1:Nat):Int),Zpg n (λv=>decide (ZkU live (L.take (k+1)) out (v:Int)≠0)),()),?_,rfl⟩;simp only[JH,show (k:Int)<(L.length:Int) from by omega,if_true,Zp,hx,hlv,Bq,hfrom,hto,Xm (show k<=1048576 by omega)];have hsame:(∀ v:Nat,cw live out (v:Int) k x=0)->Zpg n (λv=>decide (ZkU live (L.take (k+1)) out (v:Int)≠0))=Zpg n (λv=>decide (ZkU live (L.take k) out (v:Int)≠0)):=λhz=>by
   unfold Zpg;refine List.map_congr_left λv _=>?_;rw[Zb9 hx,hz,Nat.add_zero]
  by_cases q1:lv=true
  ·rw[if_pos q1]
   by_cases q2:Zm.From x∈out
   ·rw[if_pos (decide_eq_true q2),hsame (λv=>by unfold cw;grind)]
   ·rw[if_neg (by grind)]
    rw[ZxZ (q:=λv=>decide (ZkU live (L.take (k+1)) out (v:Int)≠0)) (by omega) ?_ ?_]
    ·rw[decide_eq_true_eq,Zb9 hx]
     unfold cw;grind
    ·intro j hj
     rw[Zb9 hx];unfold cw;grind
  ·rw[if_neg q1,hsame (λv=>by unfold cw;grind)]
 ·rintro _ rfl
  show JH (n:Int) L live out (Zpg n λv=>decide ((v:Int)∈out)) (L.length:Int) (Zpg n λv=>decide (ZkU live (L.take L.length) out (v:Int)≠0))=_;unfold JH;grind
theorem ZBa {live:List Bool} {L:List Zm} {n:Nat} (h:Zzl live L n) {out:List Int} (ho:out.length<=1000) :
  Zo (λv=>XJ (n:Int) out (Zpg n λv=>decide ((v:Int)∈out)) (Zpg n λv=>decide (ZkU live L out (v:Int)≠0)) v.1) ((0:Int),()) =
   some (.inr (match nxt live L n out with
    | none=>.inr ([],false)
    | some v=>.inl (out++[(v:Int)],Zpg n (λu=>decide ((u:Int)∈out++[(v:Int)])),()))):=by
 have hn:=h.n0;have step:∀ k:Nat,k<n->(decide ((k:Int) ∉ out)&&decide (ZkU live L out (k:Int)=0))=false->XJ (n:Int) out (Zpg n λv=>decide ((v:Int)∈out)) (Zpg n λv=>decide (ZkU live L out (v:Int)≠0)) (k:Int)=some (.inl (((k+1:Nat):Int),())):=λk hk hp=>by
  unfold XJ;rw[if_pos (by omega),Zp,Zga hk,Bq,Xm (by omega)];by_cases q:(k:Int)∈out
  ·grind
  ·rw[if_neg (by grind),Zp,Zga hk,Bq]
   grind
 cases e:nxt live L n out with
 | none =>
  unfold nxt at e;rw[List.find?_range_eq_none] at e;refine Yb n (λk v=>v=((k:Int),())) _ rfl ?_ ?_
  ·grind
  ·rintro _ rfl
   show XJ _ _ _ _ (n:Int)=_;unfold XJ;grind
 | some v =>
  unfold nxt at e;rw[List.find?_range_eq_some] at e;obtain ⟨hp,hv,hlow⟩:=e;have hv:=List.mem_range.1 hv;rw[Bool.and_eq_true,decide_eq_true_eq,decide_eq_true_eq] at hp;refine Yb v (λk u=>u=((k:Int),())) _ rfl ?_ ?_
  ·grind
  ·rintro _ rfl
   show XJ _ _ _ _ (v:Int)=_;unfold XJ;rw[if_pos (by omega),Zp,Zga hv,Bq,if_neg (by grind),Zp,Zga hv,Bq,if_neg (by grind),if_neg (by omega),Zh (by grind),Int.toNat_natCast];rw[ZxZ (q:=λu=>decide ((u:Int)∈out++[(v:Int)])) hv (decide_eq_true (List.mem_append.2 (.inr (List.mem_singleton.2 rfl)))) (λj hj=>by
    grind)]
theorem Zsd {live:List Bool} {L:List Zm} {n:Nat} (h:Zzl live L n):∀ (m:Nat) (out:List Int),out.length+m=n->
  Zo (λv=>VJ (n:Int) L live v.1 v.2.1) (out,Zpg n (λu=>decide ((u:Int)∈out)),())=some (ZvH live L n m out)
 | 0,out,hm=>by
  refine YI ?_;show VJ (n:Int) L live out _=_;unfold VJ;rw[if_neg (by omega)];rfl
 | m+1,out,hm=>by
  have hn:=h.n0;have hw:=Zzd h (ZBa h (out:=out) (by omega));have hs:VJ (n:Int) L live out (Zpg n (λu=>decide ((u:Int)∈out)))=some (match nxt live L n out with
    | none=>.inr ([],false)
    | some v=>.inl (out++[(v:Int)],Zpg n (λu=>decide ((u:Int)∈out++[(v:Int)])),())):=by
   unfold VJ;grind
  unfold ZvH;cases e:nxt live L n out with
  | none =>
   rw[e] at hs;exact YI hs
  | some v =>
   rw[e] at hs;exact (Y1 hs).trans (Zsd h m (out++[(v:Int)]) (by grind))
theorem ZuL {live:List Bool} {L:List Zm} {n:Nat} (h:Zzl live L n):Zhk (n:Int) L live=some (ZvH live L n n []):=by
 have hn:=h.n0;unfold Zhk;rw[Zh (by omega),Zh (by omega),Zh (by omega),Zh (by omega),Int.toNat_natCast,Ztt];have:=Zsd h n [] (by simp);simpa using this
def Znk (n:Nat) (p:Nat->Int):List Int:=(List.range n).map p
theorem Zf8 {n:Nat} {p:Nat->Int} {v:Nat} (h:v<n):(Znk n p)[v]?=some (p v):=by
 unfold Znk;grind
theorem Zf9 (n:Nat) (p:Nat->Int):(Znk n p).length=n:=by unfold Znk;simp
theorem Zuq {n:Nat} {p q:Nat->Int} {i:Nat} {b:Int} (hi:i<n) (h1:q i=b) (h2:∀ j,j≠i->q j=p j):List.set (Znk n p) i b=Znk n q:=by
 apply List.ext_getElem?;intro j;rw[List.getElem?_set];by_cases c:i=j
 ·subst c
  rw[if_pos rfl,if_pos (by rw[Zf9];exact hi),Zf8 hi,h1]
 ·rw[if_neg c]
  by_cases hj:j<n
  ·rw[Zf8 hj,Zf8 hj,h2 j (λe=>c e.symm)]
  ·rw[List.getElem?_eq_none (by rw[Zf9];omega),List.getElem?_eq_none (by rw[Zf9];omega)]
def Zsv (live:List Bool) (node:Int) (k:Nat) (x:Zm):List Int:=if (live[k]?).getD false=true then (if Zm.From x=node then [(k:Int)] else []) else []
def Zvi (b:Zd) (live:List Bool) (node:Int):List Int:=cat (Zsv live node) 0 (Zl b)
theorem Zz8 (live:List Bool) (node:Int) (k:Nat) (x:Zm):(Zsv live node k x).length<=1:=by
 unfold Zsv;grind
theorem Zvj {b:Zd} (h:Xy b) (live:List Bool) (node:Int) (n:Nat):(cat (Zsv live node) 0 ((Zl b).take n)).length<=6000:=by
 have h1:=V4 (f:=Zsv live node) (c:=1) (l:=(Zl b).take n) (m:=0) (λk x _=>Zz8 live node k x);have h2:=Y7 h;grind
theorem Zub {b:Zd} (h:Xy b) {v:ZF} (hv:VOk b v) {live:List Bool} (hl:live.length=(Zl b).length) (node:Int):ZeR (v,live,()) node=some (Zvi b live node):=by
 have h6:=Y7 h;have el:ZF.links (ZI.view ((v,live,()):ZI))=Zl b:=hv.links;have ev:ZI.live ((v,live,()):ZI)=live:=rfl;unfold ZeR X7;have:=XM (l:=Zl b) (ρ:=List Int) (Zsv live node) [] (step:=λu=>YE (v,live,()) (node,()) u.1 u.2.1) (good:=Zvi b live node)
  (λk x hx hk=>by
   have hlv:live[k]?=some (live[k]'(by omega)):=List.getElem?_eq_getElem _;have hlen:=Zvj h live node k;simp only[YE,el,ev,show (k:Int)<((Zl b).length:Int) from by omega,if_true,Zp,hx,hlv,Bq,ZeS,List.nil_append,Xm (show k<=1048576 by omega)];unfold Zsv at *;rw[hlv];simp only[Option.getD_some];by_cases q1:live[k]'(by omega)=true
   ·rw[if_pos q1,if_pos q1]
    by_cases q2:Zm.From x=node
    ·rw[if_pos (decide_eq_true q2),if_pos q2,Zh (by grind)]
    grind
   grind)
  (by simp only[YE,el,Int.lt_irrefl,if_false,List.nil_append];rfl)
 rw[this];rfl
theorem ZyK {n:Nat} {p:Nat->Int} (hn:n<=1000):Zag (Znk n p) 0=some (match (List.range n).find? (λv=>decide (p v=0)) with
  | none=>-1
  | some v=>(v:Int)):=by
 unfold Zag;cases e:(List.range n).find? (λv=>decide (p v=0)) with
 | none =>
  rw[List.find?_range_eq_none] at e;refine Yb n (λk v=>v=((k:Int),())) _ rfl ?_ ?_
  ·rintro k _ hk rfl
   have hz:=e k hk;rw[Bool.not_eq_true',decide_eq_false_iff_not] at hz;simp only[X8,Zf9,show (k:Int)<(n:Int) from by omega,if_true,Zp,Zf8 hk,Bq,Xm (show k<=1048576 by omega)];grind
  ·rintro _ rfl
   simp only[X8,Zf9,Int.lt_irrefl,if_false]
 | some v =>
  rw[List.find?_range_eq_some] at e;obtain ⟨hp,hv,hlow⟩:=e;have hv:=List.mem_range.1 hv;rw[decide_eq_true_eq] at hp;refine Yb v (λk u=>u=((k:Int),())) _ rfl ?_ ?_
  ·rintro k _ hk rfl
   have hz:=hlow k hk;rw[Bool.not_eq_true',decide_eq_false_iff_not] at hz;simp only[X8,Zf9,show (k:Int)<(n:Int) from by omega,if_true,Zp,Zf8 (show k<n by omega),Bq,Xm (show k<=1048576 by omega)];grind
  ·rintro _ rfl
   simp only[X8,Zf9,show (v:Int)<(n:Int) from by omega,if_true,Zp,Zf8 hv,Bq];rw[if_pos hp.symm]
def Zxi (live:List Bool) (k:Nat) (x:Zm):List Int:=if (live[k]?).getD false=true then [(k:Int)] else []
theorem Zxj (live:List Bool) (k:Nat) (x:Zm):(Zxi live k x).length<=1:=by
 unfold Zxi;split<;>simp
theorem ZtT {b:Zd} (h:Xy b) {v:ZF} (hv:VOk b v) {live:List Bool} (hl:live.length=(Zl b).length):Y3 (v,live,()) ()=some (cat (Zxi live) 0 (Zl b)):=by
 have h6:=Y7 h;have el:ZF.links (ZI.view ((v,live,()):ZI))=Zl b:=hv.links;have ev:ZI.live ((v,live,()):ZI)=live:=rfl;unfold Y3;exact XM (l:=Zl b) (ρ:=List Int) (Zxi live) [] (step:=λu=>YB (v,live,()) u.1 u.2.1) (good:=cat (Zxi live) 0 (Zl b))
  (λk x hx hk=>by
   have hlv:live[k]?=some (live[k]'(by omega)):=List.getElem?_eq_getElem _;have hlen:=V4 (f:=Zxi live) (c:=1) (l:=(Zl b).take k) (m:=0) (λk x _=>Zxj live k x);rw[List.length_take] at hlen;simp only[YB,el,ev,show (k:Int)<((Zl b).length:Int) from by omega,if_true,Zp,hx,hlv,Bq,ZdX,List.nil_append,Xm (show k<=1048576 by omega)];unfold Zxi at *;rw[hlv];simp only[Option.getD_some];by_cases q1:live[k]'(by omega)=true
   ·rw[if_pos q1,if_pos q1,Zh (by grind)]
   grind)
  (by simp only[YB,el,Int.lt_irrefl,if_false,List.nil_append])
def Zzn (L:List Zm) (c:Int) (y:Int) (l:List Int):List Int:=match L[y.toNat]? with
 | some x=>List.set l (Zm.To x).toNat ((l[(Zm.To x).toNat]?).getD 0+c)
 | none=>l
theorem Zug {L:List Zm} {c:Int} {k:Nat} {x:Zm} (hx:L[k]?=some x) (l:List Int):Zzn L c (k:Int) l=List.set l (Zm.To x).toNat ((l[(Zm.To x).toNat]?).getD 0+c):=by
 unfold Zzn;grind
theorem Ztg {live:List Bool} {L:List Zm} {n:Nat} (h:Zzl live L n):∀ k,k<=L.length->Qe (λk x l=>Qe (λ_ y l=>Zzn L 1 y l) 0 (Zxi live k x) l) 0 (L.take k) (List.replicate n 0)=Znk n λv=>(ZkU live (L.take k) [] (v:Int):Int)
 | 0,_=>by
  rw[List.take_zero];apply List.ext_getElem?;intro j;by_cases hj:j<n
  ·rw[Zf8 hj]
   simp only[Qe];rw[List.getElem?_replicate,if_pos hj];rfl
  ·rw[List.getElem?_eq_none (by simp only[Qe];grind),List.getElem?_eq_none (by rw[Zf9];omega)]
 | k+1,hk=>by
  have hll:=h.ll;have hx:L[k]?=some (L[k]'(by omega)):=List.getElem?_eq_getElem _;have hlv:live[k]?=some (live[k]'(by omega)):=List.getElem?_eq_getElem _;generalize L[k]'(by omega)=x at hx;generalize live[k]'(by omega)=lv at hlv;obtain ⟨_,t0,t1⟩:=h.bd x (List.mem_of_getElem? hx);rw[ZcN hx,Ztg h k (by omega)];unfold Zxi;rw[hlv,Option.getD_some];by_cases q:lv=true
  ·rw[if_pos q]
   show Zzn L 1 (k:Int) _=_;rw[Zug hx,Zf8 (by omega),Option.getD_some];refine Zuq (by omega) ?_ (λj hj=>?_)
   ·rw[Zb9 hx]
    unfold cw;grind
   ·rw[Zb9 hx]
    unfold cw;grind
  ·rw[if_neg q]
   show Znk n _=Znk n _;unfold Znk;refine List.map_congr_left λv _=>?_;rw[Zb9 hx];unfold cw;grind
theorem ZyE {b:Zd} (h:Xy b) {v:ZF} (hv:VOk b v) {live:List Bool} {n:Nat} (hB:Zzl live (Zl b) n) {R:List Int×Bool}
  (hR:Zo (λu=>YW (v,live,()) (Znk n λu=>(ZkU live (Zl b) [] (u:Int):Int)) u.1 u.2.1 u.2.2.1) (([]:List Int),(0:Int),Znk n (λu=>(ZkU live (Zl b) [] (u:Int):Int)),())=some (.inr R)) :
  Zo (λu=>Qz (v,live,()) (cat (Zxi live) 0 (Zl b)) u.1 u.2.1) ((0:Int),List.replicate n (0:Int),())=some R:=by
 have h6:=hB.few;have el:ZF.links (ZI.view ((v,live,()):ZI))=Zl b:=hv.links;have hC:=V4 (f:=Zxi live) (c:=1) (l:=Zl b) (m:=0) (λk x _=>Zxj live k x);refine ZbI (l:=cat (Zxi live) 0 (Zl b)) (by unfold Len;omega) (λs i=>(i,s,())) (f:=λ_ y s=>Zzn (Zl b) 1 y s) (s0:=List.replicate n (0:Int)) (λk s=>s.length=n/\∀ z∈s,0<=z/\z<=(k:Int)) ⟨List.length_replicate,λz hz=>by grind⟩ (λm y s hy hI _=>?_) (λs hI he=>?_)
 ·obtain ⟨hsl,hsb⟩:=hI
  have hm:=(List.getElem?_eq_some_iff.1 hy).1;obtain ⟨k,x,hx,hyx⟩:=Qj.1 (List.mem_of_getElem? hy);rw[Nat.zero_add] at hyx;have ey:y=(k:Int):=by
   unfold Zxi at hyx;grind
  subst ey;obtain ⟨_,t0,t1⟩:=hB.bd x (List.mem_of_getElem? hx);have hz:s[(Zm.To x).toNat]?=some (s[(Zm.To x).toNat]'(by omega)):=List.getElem?_eq_getElem _;have hzb:=hsb _ (List.mem_of_getElem? hz);generalize s[(Zm.To x).toNat]'(by omega)=z at hz hzb;have ei:Zzn (Zl b) 1 (k:Int) s=List.set s (Zm.To x).toNat (z+1):=by rw[Zug hx,hz];rfl
  refine ⟨?_,?_⟩
  ·show Qz (v,live,()) _ (m:Int) s=_
   unfold Qz;rw[if_pos (by omega),Zp,hy,Bq,el,Zp,hx,Bq,QF t0 hz,Bq,YT (n:=z+1) (by omega) (by omega),ei]
  grind
 ·rw[ZnF (λy s=>Zzn (Zl b) 1 y s)] at he
  have hcf:=Ztg hB (Zl b).length (Nat.le_refl _);rw[List.take_length] at hcf;rw[hcf] at he;subst he;show Qz (v,live,()) _ ((cat (Zxi live) 0 (Zl b)).length:Int) _=_;unfold Qz;grind
def dw (live:List Bool) (w v:Int) (k:Nat) (x:Zm):Nat:=if (live[k]?).getD false=true then (if Zm.To x=v then (if Zm.From x=w then 1 else 0) else 0) else 0
def ZDM (live:List Bool) (L:List Zm) (w v:Int):Nat:=Qe (λk x s=>s+dw live w v k x) 0 L 0
theorem Znu {live:List Bool} {L:List Zm} {w v:Int} {k:Nat} {x:Zm} (hx:L[k]?=some x):ZDM live (L.take (k+1)) w v=ZDM live (L.take k) w v+dw live w v k x:=by
 unfold ZDM;rw[ZcN hx]
theorem ZBR (live:List Bool) {out:List Int} {w:Int} (hw:w ∉ out) (v:Int) (k:Nat) (x:Zm):cw live out v k x=cw live (out++[w]) v k x+dw live w v k x:=by
 unfold cw dw;grind
theorem Zox (live:List Bool) (L:List Zm) {out:List Int} {w:Int} (hw:w ∉ out) (v:Int):∀ k,k<=L.length->ZkU live (L.take k) out v=ZkU live (L.take k) (out++[w]) v+ZDM live (L.take k) w v
 | 0,_=>rfl
 | k+1,hk=>by
  have hx:L[k]?=some (L[k]'(by omega)):=List.getElem?_eq_getElem _;rw[Zb9 hx,Zb9 hx,Znu hx,Zox live L hw v k (by omega),ZBR live hw v k];omega
theorem ZDP (live:List Bool) (L:List Zm) (out:List Int) (v:Int):∀ (m k:Nat) (x:Zm),m<=L.length->k<m->L[k]?=some x->cw live out v k x<=ZkU live (L.take m) out v
 | 0,k,x,_,hk,_=>by omega
 | m+1,k,x,hm,hk,hx=>by
  have hy:L[m]?=some (L[m]'(by omega)):=List.getElem?_eq_getElem _;rw[Zb9 hy];by_cases e:k=m
  ·grind
  ·have:=ZDP live L out v m k x (by omega) (by omega) hx
   omega
noncomputable def opn (live:List Bool) (L:List Zm) (out:List Int) (u:Nat):Int:=if (u:Int)∈out then -1 else (ZkU live L out (u:Int):Int)
def Clo (live:List Bool) (L:List Zm) (out:List Int):Prop:=∀ u∈out,ZkU live L out u=0
theorem Zxs {live:List Bool} {L:List Zm} {n:Nat} (h:Zzl live L n) {out:List Int} {w:Nat} (hw:w<n) (hn:(w:Int) ∉ out) (hc:ZkU live L out (w:Int)=0) (hcl:Clo live L out):∀ k,k<=L.length->
  Qe (λk x l=>Qe (λ_ y l=>Zzn L (-1) y l) 0 (Zsv live (w:Int) k x) l) 0 (L.take k) (List.set (Znk n (opn live L out)) w (-1))=Znk n λu=>if (u:Int)∈out++[(w:Int)] then -1 else (ZkU live L out (u:Int):Int)-(ZDM live (L.take k) (w:Int) (u:Int):Int)
 | 0,_=>by
  rw[List.take_zero];simp only[Qe];refine Zuq hw ?_ (λj hj=>?_)
  ·grind
  ·unfold opn
   by_cases q:(j:Int)∈out
   ·grind
   ·rw[if_neg q,if_neg (λz=>by
     grind)]
    show _-((0:Nat):Int)=_;omega
 | k+1,hk=>by
  have hll:=h.ll;have hx:L[k]?=some (L[k]'(by omega)):=List.getElem?_eq_getElem _;have hlv:live[k]?=some (live[k]'(by omega)):=List.getElem?_eq_getElem _;generalize L[k]'(by omega)=x at hx;generalize live[k]'(by omega)=lv at hlv;obtain ⟨_,t0,t1⟩:=h.bd x (List.mem_of_getElem? hx);rw[ZcN hx,Zxs h hw hn hc hcl k (by omega)];have hle:=ZDP live L out (Zm.To x) L.length k x (Nat.le_refl _) (by omega) hx;rw[List.take_length] at hle;have hsame:(∀ u:Int,dw live (w:Int) u k x=0)->Znk n (λu=>if (u:Int)∈out++[(w:Int)] then -1 else (ZkU live L out (u:Int):Int)-(ZDM live (L.take k) (w:Int) (u:Int):Int))=Znk n λu=>if (u:Int)∈out++[(w:Int)] then -1 else (ZkU live L out (u:Int):Int)-(ZDM live (L.take (k+1)) (w:Int) (u:Int):Int):=λhz=>by
   unfold Znk;refine List.map_congr_left λu _=>?_;rw[Znu hx,hz,Nat.add_zero]
  unfold Zsv;rw[hlv,Option.getD_some];by_cases q:lv=true
  ·rw[if_pos q]
   by_cases qf:Zm.From x=(w:Int)
   ·rw[if_pos qf]
    have hcw:cw live out (Zm.To x) k x=1:=by
     unfold cw;grind
    have hto:Zm.To x ∉ out++[(w:Int)]:=λz=>by
     rcases List.mem_append.1 z with z | z
     ·have:=hcl _ z;omega
     grind
    show Zzn L (-1) (k:Int) _=_;rw[Zug hx,Zf8 (by omega),Option.getD_some,show (((Zm.To x).toNat:Nat):Int)=Zm.To x by omega,if_neg hto];refine Zuq (by omega) ?_ (λj hj=>?_)
    ·rw[show (((Zm.To x).toNat:Nat):Int)=Zm.To x by omega,if_neg hto,Znu hx]
     unfold dw;grind
    ·have hd:dw live (w:Int) (j:Int) k x=0:=by
      unfold dw;grind
     rw[Znu hx,hd,Nat.add_zero]
   ·rw[if_neg qf]
    exact hsame λu=>by unfold dw;grind
  ·rw[if_neg q]
   exact hsame λu=>by unfold dw;grind
theorem ZzK (live:List Bool) (L:List Zm) (out:List Int) (v:Int):∀ k,k<=L.length->ZkU live (L.take k) out v<=k
 | 0,_=>Nat.le_refl _
 | k+1,hk=>by
  have hx:L[k]?=some (L[k]'(by omega)):=List.getElem?_eq_getElem _;rw[Zb9 hx];have:=ZzK live L out v k (by omega);have h1:cw live out v k (L[k]'(by omega))<=1:=by
   unfold cw;split
   ·split
    ·split<;>omega
    ·omega
   ·omega
  omega
theorem ZGq {live:List Bool} {L:List Zm} {n:Nat} (h:Zzl live L n) (out:List Int) (u:Nat):-1<=opn live L out u/\opn live L out u<=6000:=by
 have h1:=ZzK live L out (u:Int) L.length (Nat.le_refl _);have h2:=h.few;rw[List.take_length] at h1;unfold opn;split<;>omega
theorem ZBN {live:List Bool} {L:List Zm} {out:List Int} {w:Int} (hn:w ∉ out) (hc:ZkU live L out w=0) (hcl:Clo live L out):Clo live L (out++[w]):=by
 intro u hu;have hs:=Zox live L hn u L.length (Nat.le_refl _);rw[List.take_length] at hs;rcases List.mem_append.1 hu with q | q
 ·have:=hcl u q
  omega
 ·rw[List.mem_singleton.1 q] at hs ⊢
  omega
theorem Zz9 {b:Zd} {live:List Bool} {w y:Int} (hy:y∈Zvi b live w):∃ (k:Nat) (x:Zm),y=(k:Int)/\(Zl b)[k]?=some x/\Zm.From x=w:=by
 obtain ⟨k,x,hx,hyx⟩:=Qj.1 hy;rw[Nat.zero_add] at hyx;unfold Zsv at hyx;split at hyx
 ·split at hyx
  ·rename_i q
   exact ⟨k,x,List.mem_singleton.1 hyx,hx,q⟩
  ·cases hyx
 ·cases hyx
theorem ZBV {b:Zd} (h:Xy b) {v:ZF} (hv:VOk b v) {live:List Bool} {n:Nat} (hB:Zzl live (Zl b) n) {out:List Int} {w:Nat} (hw:w<n) (hn:(w:Int) ∉ out) (hc:ZkU live (Zl b) out (w:Int)=0) (hcl:Clo live (Zl b) out) (i:Int) :
  Zo (λu=>Qy (v,live,()) out i (w:Int) (Zvi b live (w:Int)) u.1 u.2.1) ((0:Int),List.set (Znk n (opn live (Zl b) out)) w (-1:Int),()) =
   some (.inl (out++[(w:Int)],Wq (i+1),Znk n (opn live (Zl b) (out++[(w:Int)])),())):=by
 have h6:=hB.few;have el:ZF.links (ZI.view ((v,live,()):ZI))=Zl b:=hv.links;have hlen:(Zvi b live (w:Int)).length<=6000:=by
  have:=Zvj h live (w:Int) (Zl b).length;rw[List.take_length] at this;exact this
 refine ZbI (l:=Zvi b live (w:Int)) (by unfold Len;omega) (λs i=>(i,s,())) (f:=λ_ y s=>Zzn (Zl b) (-1) y s) (s0:=List.set (Znk n (opn live (Zl b) out)) w (-1:Int)) (λk s=>s.length=n/\∀ z∈s,-1-(k:Int)<=z/\z<=6000) ⟨by rw[List.length_set,Zf9],λz hz=>?_⟩ (λm y s hy hI _=>?_) (λs hI he=>?_)
 ·rcases List.mem_or_eq_of_mem_set hz with q | q
  ·unfold Znk at q
   obtain ⟨u,_,rfl⟩:=List.mem_map.1 q;have:=ZGq hB out u;omega
  ·omega
 ·obtain ⟨hsl,hsb⟩:=hI
  have hm:=(List.getElem?_eq_some_iff.1 hy).1;obtain ⟨k,x,rfl,hx,_⟩:=Zz9 (List.mem_of_getElem? hy);obtain ⟨_,t0,t1⟩:=hB.bd x (List.mem_of_getElem? hx);have hz:s[(Zm.To x).toNat]?=some (s[(Zm.To x).toNat]'(by omega)):=List.getElem?_eq_getElem _;have hzb:=hsb _ (List.mem_of_getElem? hz);generalize s[(Zm.To x).toNat]'(by omega)=z at hz hzb;have ei:Zzn (Zl b) (-1) (k:Int) s=List.set s (Zm.To x).toNat (z-1):=by rw[Zug hx,hz];rfl
  refine ⟨?_,?_⟩
  ·show Qy (v,live,()) out i (w:Int) _ (m:Int) s=_
   unfold Qy;rw[if_pos (by omega),Zp,hy,Bq,el,Zp,hx,Bq,QF t0 hz,Bq,YT (n:=z-1) (by omega) (by omega),ei]
  ·rw[ei]
   refine ⟨by rw[List.length_set];exact hsl,λz' hz'=>?_⟩;rcases List.mem_or_eq_of_mem_set hz' with q | q
   ·have:=hsb z' q;omega
   ·omega
 ·have hd:=Zxs hB hw hn hc hcl (Zl b).length (Nat.le_refl _)
  unfold Zvi at he;rw[ZnF (λy s=>Zzn (Zl b) (-1) y s)] at he;rw[List.take_length] at hd;rw[hd] at he;subst he;show Qy (v,live,()) out i (w:Int) _ ((Zvi b live (w:Int)).length:Int) _=_;unfold Qy;rw[if_neg (Int.lt_irrefl _)];congr 6;unfold Znk;refine List.map_congr_left λu _=>?_;have hs:=Zox live (Zl b) hn (u:Int) (Zl b).length (Nat.le_refl _);rw[List.take_length] at hs;unfold opn;split
  ·rfl
  ·omega
theorem ZGo (live:List Bool) (L:List Zm) (n:Nat) (out:List Int):(List.range n).find? (λv=>decide (opn live L out v=0))=nxt live L n out:=by
 unfold nxt;congr 1;funext v;unfold opn;by_cases q:(v:Int)∈out
 ·rw[if_pos q,decide_eq_false (by omega),decide_eq_false (λz=>z q),Bool.false_and]
 ·rw[if_neg q,decide_eq_true q,Bool.true_and,decide_eq_decide]
  omega
theorem Zrc {b:Zd} (h:Xy b) {v:ZF} (hv:VOk b v) {live:List Bool} {n:Nat} (hB:Zzl live (Zl b) n) {l0:List Int} (hl0:l0.length=n):∀ (m:Nat) (out:List Int),out.length+m=n->Clo live (Zl b) out->
  Zo (λu=>YW (v,live,()) l0 u.1 u.2.1 u.2.2.1) (out,(out.length:Int),Znk n (opn live (Zl b) out),())=some (.inr (ZvH live (Zl b) n m out))
 | 0,out,hm,hcl=>by
  refine YI ?_;show YW (v,live,()) l0 out (out.length:Int) _=_;unfold YW;rw[if_neg (by omega)];rfl
 | m+1,out,hm,hcl=>by
  have hn:=hB.n0;have hi:=ZyK (p:=opn live (Zl b) out) hB.n0;rw[ZGo] at hi;unfold ZvH;cases e:nxt live (Zl b) n out with
  | none =>
   rw[e] at hi;refine YI ?_;show YW (v,live,()) l0 out (out.length:Int) _=_;unfold YW;rw[if_pos (by omega),hi];rfl
  | some w =>
   rw[e] at hi;have e':=e;unfold nxt at e';rw[List.find?_range_eq_some] at e';obtain ⟨hp,hw,_⟩:=e';have hw:=List.mem_range.1 hw;rw[Bool.and_eq_true,decide_eq_true_eq,decide_eq_true_eq] at hp;have hstep:YW (v,live,()) l0 out (out.length:Int) (Znk n (opn live (Zl b) out))=some (.inl (out++[(w:Int)],((out++[(w:Int)]).length:Int),Znk n (opn live (Zl b) (out++[(w:Int)])),())):=by
    unfold YW;rw[if_pos (by omega),hi,Bq];show (if (w:Int)<0 then _ else _)=_;rw[if_neg (by omega),Zp,Zf8 hw,Bq,Zh (by simp only[List.length_cons,List.length_nil];omega),Zub h hv hB.ll,Bq,Int.toNat_natCast,ZBV h hv hB hw hp.1 hp.2 hcl,Xm (by omega)];rw[List.length_append];rfl
   exact (Y1 hstep).trans (Zrc h hv hB hl0 m (out++[(w:Int)]) (by rw[List.length_append];simp only[List.length_cons,List.length_nil];omega) (ZBN hp.1 hp.2 hcl))
theorem Zuf {b:Zd} (h:Xy b) {v:ZF} (hv:VOk b v) {live:List Bool} {n:Nat} (hB:Zzl live (Zl b) n) (hn:Xc v=some (n:Int)):Vr (v,live,())=some (ZvH live (Zl b) n n []):=by
 have h1:=hB.n0;unfold Vr;show (Xc v).bind _=_;rw[hn,Bq,Zh (by omega),Zh (by omega),Zh (by omega),Zh (by omega),ZtT h hv hB.ll,Bq,Int.toNat_natCast];refine ZyE h hv hB ?_;have:=Zrc h hv hB (l0:=Znk n λu=>(ZkU live (Zl b) [] (u:Int):Int)) (Zf9 _ _) n [] (by simp) (λu hu=>by cases hu);have e:Znk n (opn live (Zl b) [])=Znk n λu=>(ZkU live (Zl b) [] (u:Int):Int):=by
  unfold Znk;refine List.map_congr_left λu _=>?_;unfold opn;rw[if_neg (by simp)]
 rw[e] at this;exact this
abbrev Vp (b:Zd):Nat:=2*(ZC (Zd.Design b)).length
abbrev XY (b:Zd) (br:List Int):List Bool:=ZaW (Zl b).length br
def ZaX (b:Zd) (br:List Int):List Int×Bool:=ZvH (XY b br) (Zl b) (Vp b) (Vp b) []
theorem nN (b:Zd):Vp b=2*(ZC (Zd.Design b)).length:=rfl
theorem Zhe {b:Zd} (h:Xy b):Vp b<=156:=by
 have:=XE h.ok.1.few;have:=nN b;omega
theorem ZLV {b:Zd} (h:Xy b) (br:List Int):Zzl (XY b br) (Zl b) (Vp b) where
 few:=Y7 h
 ll:=QA _ _
 n0:=by have:=Zhe h;omega
 bd:=λx hx=>by
  have:=Zg0 h hx;have:=nN b;omega
theorem Zuw {b:Zd} (h:Xy b) {v:ZF} (hv:VOk b v):Xc v=some (Vp b:Int):=by
 have:=Zhe h;have e:=nN b;unfold Xc;rw[show YX (ZF.ZC v)=some ((ZF.ZC v).length:Int) from rfl,Bq,hv.ZC,YT (by omega) (by omega)];congr 1
theorem Zrh {b:Zd} (h:Xy b) {v:ZF} (hv:VOk b v) {br:List Int} (hbr:br.length<=1048576):ZeV v br=some (tr (ZpQ ((Zl b).length:Int) br)):=by
 have hLs:=Y7 h;unfold ZeV;rw[show Zgm (ZF.links v)=some ((ZF.links v).length:Int) from rfl,Bq,hv.links,YT (by omega) (by omega)];exact ZwI br _ hbr
theorem Ztq {b:Zd} (h:Xy b) {br:List Int} (hbr:br.length<=1048576):ZgA b br=some (sel (ZpQ ((Zl b).length:Int) br) 0 2):=by
 have hLs:=Y7 h;unfold ZgA;rw[Zfa b h.sm,Bq,if_pos (ZR h.ok),ZdP h,Bq,Zpy br _ hbr (by omega),Bq];by_cases q:ZpQ ((Zl b).length:Int) br
 ·rw[if_pos (ZR q),XI q]
 ·rw[if_neg (λz=>q ((Xx _).1 z)),Xe q]
theorem Zlk {b:Zd} (h:Xy b):Jm b=some (Vp b:Int):=by
 rw[Zqp h.ok.1.few];congr 1
theorem ZFy {b:Zd} (h:Xy b) {br:List Int} (hbr:br.length<=1048576) (hR:ZpQ ((Zl b).length:Int) br):Zai b br=some (if (ZaX b br).2=true then ((ZaX b br).1,0) else ([],7)):=by
 have hLs:=Y7 h;unfold Zai;rw[Ztq h hbr,Bq,XI hR,if_pos rfl,ZdP h,Bq,Zlk h,Bq,ZhU _ _ hLs hbr,Bq,ZuL (ZLV h br),Bq];show (if (ZaX b br).2=true then _ else _)=_;split<;>rfl
theorem ZqA {b:Zd} (h:Xy b) {v:ZF} (hv:VOk b v) (br:List Int):Vr (v,XY b br,())=some (ZaX b br) :=
 Zuf h hv (ZLV h br) (Zuw h hv)
theorem ZoF {b:Zd} (h:Xy b) {v:ZF} (hv:VOk b v) {br:List Int} (hbr:br.length<=1048576) (hR:ZpQ ((Zl b).length:Int) br):VH v br=some (v,XY b br,()):=by
 have hLs:=Y7 h;have:=ZyJ v br (by rw[hv.links];exact hLs) (by rw[hv.links];exact hR.1) hbr;rw[hv.links] at this;exact this
theorem ZBc {n:Int} {l:List Zj} (h:Zfu l (ZdD n l)) {i:Nat} {x:Zj} (hx:l[i]?=some x):∀ (m:Nat) (y:Zj),l[i+m+1]?=some y->Zj.Node x<Zj.Node y
 | 0,y,hy=>(h (i+1) y hy).2.1 x (by omega) hx
 | m+1,y,hy=>by
  have hl:=(List.getElem?_eq_some_iff.1 hy).1;have hz:l[i+m+1]?=some (l[i+m+1]'(by omega)):=List.getElem?_eq_getElem _;have h1:=ZBc h hx m _ hz;have h2:=(h (i+m+1+1) y hy).2.1 _ (by omega) hz;omega
theorem ZGp {n:Int} {l:List Zj} (h:Zfu l (ZdD n l)):Zxg l:=by
 intro i j x y hx hy he;rcases Nat.lt_trichotomy i j with q | q | q
 ·have:=ZBc h hx (j-i-1) y (by rw[show i+(j-i-1)+1=j by omega];exact hy)
  omega
 ·exact q
 ·have:=ZBc h hy (i-j-1) x (by rw[show j+(i-j-1)+1=i by omega];exact hx)
  omega
structure ZqG (b:Zd) (c:Zt) (br:List Int) (l:List Zj):Prop where
 blk:Xy b
 cor:Vw c
 ris:ZpQ ((Zl b).length:Int) br
 src:Zfu l (ZdD (2*((ZC (Zd.Design b)).length:Int)) l)
 ord:(ZaX b br).2=true
structure Pre (b:Zd) (c:Zt) (br:List Int) (l:List Zj):Prop where
 blk:Xy b
 cor:Vw c
 ris:ZpQ ((Zl b).length:Int) br
 src:Zfu l (ZdD (2*((ZC (Zd.Design b)).length:Int)) l)
theorem ZqG.pre {b:Zd} {c:Zt} {br:List Int} {l:List Zj} (h:ZqG b c br l):Pre b c br l:=⟨h.blk,h.cor,h.ris,h.src⟩
def Znl (t:Zw) (k:Nat) (r:Bool×Zj):Zw:=(List.set (Zw.Reached t) k r.1,List.set (Zw.Ye t) k (Zj.Ye r.2),List.set (Zw.QU t) k (Zj.QU r.2),())
theorem Zw9 {t:Zw} {n k:Nat} (ht:ZlJ n t) (hk:k<n):∃ x a s,atI (Zw.Reached t) (k:Int)=some x/\atI (Zw.Ye t) (k:Int)=some a/\atI (Zw.QU t) (k:Int)=some s:=by
 have h1:=ht.lr;have h2:=ht.la;have h3:=ht.ls;exact ⟨_,_,_,by rw[Zp];exact List.getElem?_eq_getElem (by omega),by rw[Zp];exact List.getElem?_eq_getElem (by omega),by rw[Zp];exact List.getElem?_eq_getElem (by omega)⟩
def Fed (b:Zd) (live:List Bool) (ch:List Bool) (node:Int) (m:Nat):Prop:=∃ (k:Nat) (x:Zm),k<m/\(Zl b)[k]?=some x/\live[k]?=some true/\Zm.To x=node/\atI ch (Zm.From x)=some true
noncomputable def due (b:Zd) (live:List Bool) (dirty:List Int) (ch:List Bool) (node:Int):Bool:=tr (node∈dirty\/Fed b live ch node (Zl b).length)
theorem ZoD {α σ:Type} {f:Nat->α->σ->σ} {I:σ->Prop}:∀ (l:List α) (m:Nat) (s:σ),I s->(∀ k x s,l[k]?=some x->I s->I (f (m+k) x s))->I (Qe f m l s)
 | [],_,_,h,_=>h
 | x::l,m,s,h,hf=>by
  simp only[Qe];have h0:=hf 0 x s rfl h;rw[Nat.add_zero] at h0;refine ZoD l (m+1) _ h0 λk y s hy hs=>?_;rw[show m+1+k=m+(k+1) by omega];exact hf (k+1) y s (by rw[List.getElem?_cons_succ];exact hy) hs
def StB (st:NSt):Prop:=∀ q,st=some q->ZBz q.2
theorem ZDm:ZBz Zb7:=by
 refine ⟨⟨?_,?_⟩,?_,?_⟩<;>decide
theorem ZEy {s:Zx} (h:Zdq s):ZBz s:=by
 obtain ⟨z1,z2,z3⟩:=h;exact ⟨⟨by omega,by omega⟩,by omega,by omega⟩
theorem ZCJ {a s:Zx} (ha:ZBz a) (hs:ZBz s):ZBz (hul a s):=by
 obtain ⟨⟨a1,a2⟩,a3,a4⟩:=ha;obtain ⟨⟨b1,b2⟩,b3,b4⟩:=hs;unfold hul;refine ⟨⟨?_,?_⟩,?_,?_⟩
 ·show -1000000<=Min.min _ _;omega
 ·show Min.min _ _<=1000000;omega
 ·show -1000000<=Max.max _ _;omega
 ·show Max.max _ _<=1000000;omega
theorem ZCW {b:Zd} (h:Xy b) {v:ZF} (hv:VOk b v) {c:Zt} (hc:Vw c) {t:Zw} (ht:ZlJ (Vp b) t) {k:Nat} {x:Zm} (hx:(Zl b)[k]?=some x) {st:NSt} (hs:StB st):StB (ZuT b c t x st):=by
 obtain ⟨r,a,s,hr,ha,hs',hsb⟩:=ZwA h ht (List.mem_of_getElem? hx);obtain ⟨d,o,e1,e2,_,_,o1,o2⟩:=spans_eq h hv hc hx hsb.1 hsb.2;have hsp:spn b c x s=(d,o):=by unfold spn;rw[e2];rfl
 have hu:ZuT b c t x st=if r=true then ZAm st (ZuA a d) o else st:=by
  unfold ZuT;rw[hr,ha,hs'];simp only[Option.getD_some,hsp]
 rw[hu];split
 ·intro q hq
  cases st with
  | none =>
   injection hq with hq
   rw[<-hq];exact ⟨o1,o2⟩
  | some p =>
   injection hq with hq
   rw[<-hq];exact ZCJ (hs p rfl) ⟨o1,o2⟩
 ·exact hs
theorem ZyX {b:Zd} {c:Zt} {br:List Int} {l:List Zj} (hA:ZqG b c br l) {v:ZF} (hv:VOk b v) {t:Zw} (ht:ZlJ (Vp b) t) (live:List Bool) (node:Int):StB (ZiC b c live l t node):=by
 unfold ZiC;refine ZoD _ _ _ ?_ (λk x st hx hs=>?_)
 ·unfold Zj2
  refine ZoD _ _ _ (λq hq=>by cases hq) (λk x st hx hs=>?_);show StB (if Zj.Node x=node then _ else st);split
  ·intro q hq
   injection hq with hq
   rw[<-hq];exact ZEy (hA.src k x hx).2.2.2
  ·exact hs
 ·show StB (if (live[0+k]?).getD false=true then _ else st)
  split
  ·split
   ·exact ZCW hA.blk hv hA.cor ht hx hs
   ·exact hs
  ·exact hs
theorem ZAQ {n:Nat} {t:Zw} (ht:ZlJ n t) (k:Nat) {r:Bool×Zj} (hr:ZBz (Zj.QU r.2)):ZlJ n (Znl t k r):=by
 refine ⟨?_,?_,?_,λs hs=>?_⟩
 ·show (List.set (Zw.Reached t) k r.1).length=n
  rw[List.length_set];exact ht.lr
 ·show (List.set (Zw.Ye t) k (Zj.Ye r.2)).length=n
  rw[List.length_set];exact ht.la
 ·show (List.set (Zw.QU t) k (Zj.QU r.2)).length=n
  rw[List.length_set];exact ht.ls
 ·rcases List.mem_or_eq_of_mem_set (show s∈List.set (Zw.QU t) k (Zj.QU r.2) from hs) with q | q
  ·exact ht.sl s q
  ·rw[q];exact hr
theorem ZCF {st:NSt} (h:StB st) (node:Int):ZBz (Zj.QU (ZDj node st).2):=by
 cases st with
 | none=>exact ZDm
 | some q=>exact h q rfl
theorem ZDh {live:List Bool} {L:List Zm} {n:Nat} {out:List Int} {v:Nat} (h:nxt live L n out=some v):v<n/\(v:Int) ∉ out/\ZkU live L out (v:Int)=0:=by
 unfold nxt at h;rw[List.find?_range_eq_some] at h;obtain ⟨hp,hv,_⟩:=h;rw[Bool.and_eq_true,decide_eq_true_eq,decide_eq_true_eq] at hp;exact ⟨List.mem_range.1 hv,hp⟩
theorem ZAH (live:List Bool) (L:List Zm) (n:Nat):∀ (m:Nat) (out:List Int),(∀ u∈out,0<=u/\u<(n:Int))->(ZvH live L n m out).1.length<=out.length+m/\∀ u∈(ZvH live L n m out).1,0<=u/\u<(n:Int)
 | 0,out,h=>⟨by show out.length<=_;omega,h⟩
 | m+1,out,h=>by
  unfold ZvH;cases e:nxt live L n out with
  | none=>exact ⟨by simp,λu hu=>by cases hu⟩
  | some v =>
   have hv:=(ZDh e).1;obtain ⟨h1,h2⟩:=ZAH live L n m (out++[(v:Int)]) (λu hu=>by
    rcases List.mem_append.1 hu with q | q
    ·exact h u q
    ·rw[List.mem_singleton.1 q];omega)
   refine ⟨?_,h2⟩;rw[List.length_append] at h1;simp only[List.length_cons,List.length_nil] at h1;show (ZvH live L n m (out++[(v:Int)])).1.length<=_;omega
theorem Zyb (b:Zd) (br:List Int):(ZaX b br).1.length<=Vp b/\∀ u∈(ZaX b br).1,0<=u/\u<(Vp b:Int):=by
 have:=ZAH (XY b br) (Zl b) (Vp b) (Vp b) [] (λu hu=>by cases hu);rw[List.length_nil,Nat.zero_add] at this;exact this
noncomputable def newV (b:Zd) (c:Zt) (live:List Bool) (l:List Zj) (t:Zw) (node:Int):Bool×Zj:=ZDj node (ZiC b c live l t node)
noncomputable def ZBA (r:Bool×Zj):Bool:=r.1&&!tr (Za4 (Zj.Ye r.2))
def noT:Zw:=([],[],[],())
theorem Zoe:∀ (A B:List Int),A.Nodup->(∀ x∈A,x∈B)->A.length<=B.length
 | [],_,_,_=>Nat.zero_le _
 | a::A,B,h,hs=>by
  obtain ⟨s,t,rfl⟩:=List.append_of_mem (hs a List.mem_cons_self);have h1:=List.nodup_cons.1 h;have:=Zoe A (s++t) h1.2 (λx hx=>by
   grind)
  grind
def Zmu (n:Nat):List Int:=(List.range n).map λ(k:Nat)=>(k:Int)
theorem Zjh {n:Nat} {x:Int}:x∈Zmu n<->0<=x/\x<(n:Int):=by
 unfold Zmu;simp only[List.mem_map,List.mem_range];constructor
 ·grind
 ·rintro ⟨h0,h1⟩;exact ⟨x.toNat,by omega,by omega⟩
theorem Zpm (n:Nat):(Zmu n).length=n:=by unfold Zmu;simp
theorem ZAz {A:List Int} {n:Nat} (h:A.Nodup) (hl:A.length=n) (hA:∀ x∈A,0<=x/\x<(n:Int)) {u:Int} (h0:0<=u) (h1:u<(n:Int)):u∈A:=by
 refine Classical.byContradiction λq=>?_;have:=Zoe (u::A) (Zmu n) (List.nodup_cons.2 ⟨q,h⟩) (λx hx=>by
  rcases List.mem_cons.1 hx with rfl | hx
  ·exact Zjh.2 ⟨h0,h1⟩
  ·exact Zjh.2 (hA x hx))
 rw[Zpm] at this;grind
def Rdy (live:List Bool) (L:List Zm) (out:List Int) (v:Int):Prop:=∀ (k:Nat) (x:Zm),L[k]?=some x->(live[k]?).getD false=true->Zm.To x=v->Zm.From x∈out
theorem ZGr {live:List Bool} {L:List Zm} {out:List Int} {v:Int} (h:ZkU live L out v=0):Rdy live L out v:=by
 intro k x hx hl ht;have hk:=(List.getElem?_eq_some_iff.1 hx).1;have:=ZDP live L out v L.length k x (Nat.le_refl _) hk hx;rw[List.take_length,h] at this;unfold cw at this;grind
theorem Rdy.mono {live:List Bool} {L:List Zm} {out out':List Int} {v:Int} (h:Rdy live L out v) (hs:∀ x∈out,x∈out'):Rdy live L out' v:=λk x hx hl ht=>hs _ (h k x hx hl ht)
def ZpP (live:List Bool) (L:List Zm):List Int->List Int->Prop
 | _,[]=>True
 | out,v::r=>(0<=v/\v ∉ out/\Rdy live L out v)/\ZpP live L (out++[v]) r
theorem Zyc {live:List Bool} {L:List Zm} {n:Nat}:∀ (m:Nat) (out:List Int),(ZvH live L n m out).2=true->∃ r,(ZvH live L n m out).1=out++r/\r.length=m/\ZpP live L out r
 | 0,out,_=>⟨[],by rw[List.append_nil];rfl,rfl,trivial⟩
 | m+1,out,h=>by
  unfold ZvH at h ⊢;cases e:nxt live L n out with
  | none=>rw[e] at h;cases h
  | some v =>
   rw[e] at h;obtain ⟨h1,h2,h3⟩:=ZDh e;obtain ⟨r,r1,r2,r3⟩:=Zyc m (out++[(v:Int)]) h;refine ⟨(v:Int)::r,?_,by grind,⟨by omega,h2,ZGr h3⟩,r3⟩;grind
theorem ZpP.nodup {live:List Bool} {L:List Zm}:∀ (r out:List Int),ZpP live L out r->out.Nodup->(out++r).Nodup
 | [],out,_,h=>by grind
 | v::r,out,h,ho=>by
  have:=ZpP.nodup r (out++[v]) h.2 (by
   rw[List.nodup_append];refine ⟨ho,by simp,λa ha b hb e=>?_⟩;rw[List.mem_singleton.1 hb] at e;exact h.1.2.1 (e▸ha))
  grind
structure ZFU (b:Zd) (br:List Int) (R:List Int):Prop where
 ord:ZpP (XY b br) (Zl b) [] R
 len:R.length=Vp b
 nd:R.Nodup
 inn:∀ u∈R,0<=u/\u<(Vp b:Int)
 all:∀ u:Int,0<=u->u<(Vp b:Int)->u∈R
theorem ZAI {b:Zd} {br:List Int} (h:(ZaX b br).2=true):ZFU b br (ZaX b br).1:=by
 obtain ⟨r,r1,r2,r3⟩:=Zyc (Vp b) [] h;have e:(ZaX b br).1=r:=r1;have hi:=(Zyb b br).2;rw[e] at hi;have hn:r.Nodup:=ZpP.nodup r [] r3 List.nodup_nil;rw[e];exact ⟨r3,r2,hn,hi,λu h0 h1=>ZAz hn r2 hi h0 h1⟩
abbrev Row:=Bool×Zx×Zx
def Zgv (t:Zw) (k:Int):Row:=((atI (Zw.Reached t) k).getD false,(atI (Zw.Ye t) k).getD Zb7,(atI (Zw.QU t) k).getD Zb7)
def ZvS (r:Bool×Zj):Row:=(r.1,Zj.Ye r.2,Zj.QU r.2)
theorem ZCV {b:Zd} {c:Zt} {t t':Zw} {x:Zm} (h:Zgv t (Zm.From x)=Zgv t' (Zm.From x)) (st:NSt):ZuT b c t x st=ZuT b c t' x st:=by
 unfold Zgv at h;have h1:=congrArg Prod.fst h;have h2:=congrArg (λz:Row=>z.2.1) h;have h3:=congrArg (λz:Row=>z.2.2) h;dsimp only at h1 h2 h3;unfold ZuT;rw[h1,h2,h3]
theorem ZCu {b:Zd} {c:Zt} {live:List Bool} {l:List Zj} {t t':Zw} {node:Int} (h:∀ (k:Nat) (x:Zm),(Zl b)[k]?=some x->(live[k]?).getD false=true->Zm.To x=node->Zgv t (Zm.From x)=Zgv t' (Zm.From x)):newV b c live l t node=newV b c live l t' node:=by
 unfold newV ZiC;congr 1;refine ZmL _ _ _ λk x st hx=>?_;rw[Nat.zero_add];split
 ·rename_i hl
  split
  ·rename_i ht
   exact ZCV (h k x hx hl ht) st
  ·rfl
 ·rfl
theorem Zqz {b:Zd} {c:Zt} {live:List Bool} {l:List Zj} {t t':Zw} {out:List Int} {node:Int} (hr:Rdy live (Zl b) out node) (h:∀ u∈out,Zgv t u=Zgv t' u):newV b c live l t node=newV b c live l t' node :=
 ZCu λk x hx hl ht=>h _ (hr k x hx hl ht)
theorem at_set {α:Type} {l:List α} {k:Nat} {x:α} {u:Int}:atI (l.set k x) u=if u=(k:Int) then (atI l u).map (λ_=>x) else atI l u:=by
 unfold atI;grind
theorem Zps {t:Zw} {k:Nat} {r:Bool×Zj} {u:Int} (h:u≠(k:Int)):Zgv (Znl t k r) u=Zgv t u:=by
 unfold Zgv Znl;show ((atI (List.set (Zw.Reached t) k r.1) u).getD false,(atI (List.set (Zw.Ye t) k _) u).getD Zb7,(atI (List.set (Zw.QU t) k _) u).getD Zb7)=_;rw[at_set,at_set,at_set,if_neg h,if_neg h,if_neg h]
theorem ZtC {t:Zw} {n k:Nat} (ht:ZlJ n t) (hk:k<n) (r:Bool×Zj):Zgv (Znl t k r) (k:Int)=ZvS r:=by
 obtain ⟨x,a,s,hx,ha,hs⟩:=Zw9 ht hk;unfold Zgv Znl ZvS;show ((atI (List.set (Zw.Reached t) k r.1) (k:Int)).getD false,(atI (List.set (Zw.Ye t) k _) (k:Int)).getD Zb7,(atI (List.set (Zw.QU t) k _) (k:Int)).getD Zb7)=_;rw[at_set,at_set,at_set,if_pos rfl,if_pos rfl,if_pos rfl,hx,ha,hs];rfl
theorem ZEr {t t':Zw} {n:Nat} (ht:ZlJ n t) (ht':ZlJ n t') (h:∀ k:Nat,k<n->Zgv t (k:Int)=Zgv t' (k:Int)):t=t':=by
 have one:∀ {α:Type} (l l':List α) (z:α),l.length=n->l'.length=n->(∀ k:Nat,k<n->(atI l (k:Int)).getD z=(atI l' (k:Int)).getD z)->l=l':=λl l' z e1 e2 hh=>by
  apply List.ext_getElem?;intro k;by_cases hk:k<n
  ·have:=hh k hk
   rw[Zp,Zp,List.getElem?_eq_getElem (by omega),List.getElem?_eq_getElem (by omega)] at this;grind
  grind
 obtain ⟨a,b,c,⟨⟩⟩:=t;obtain ⟨a',b',c',⟨⟩⟩:=t';have e1:a=a':=one a a' false ht.lr ht'.lr λk hk=>congrArg Prod.fst (h k hk);have e2:b=b':=one b b' Zb7 ht.la ht'.la λk hk=>congrArg (λz:Row=>z.2.1) (h k hk);have e3:c=c':=one c c' Zb7 ht.ls ht'.ls λk hk=>congrArg (λz:Row=>z.2.2) (h k hk);rw[e1,e2,e3]
def Right (b:Zd) (c:Zt) (live:List Bool) (l:List Zj) (t:Zw):Prop:=∀ u:Int,0<=u->u<(Vp b:Int)->Zgv t u=ZvS (newV b c live l t u)
def Zyv (r:Row):Prop:=r.1=true->Za4 r.2.1
theorem Zxm {r:Bool×Zj}:ZBA r=false<->Zyv (ZvS r):=by
 unfold ZBA Zyv ZvS;dsimp only;cases r.1 with
 | true =>
  rw[Bool.true_and];by_cases q:Za4 (Zj.Ye r.2)
  ·rw[ZR q];grind
  ·rw[ZP q];grind
 | false=>grind
section
variable {b:Zd} {c:Zt} {live:List Bool} {l:List Zj}
theorem ZtB {t t':Zw}:∀ (r out:List Int),ZpP live (Zl b) out r->(∀ u∈out,Zgv t u=Zgv t' u)->(∀ u∈r,Zgv t u=ZvS (newV b c live l t u))->(∀ u∈r,Zgv t' u=ZvS (newV b c live l t' u))->∀ u∈r,Zgv t u=Zgv t' u
 | [],_,_,_,_,_,u,hu=>by cases hu
 | v::r,out,h,ho,h1,h2,u,hu=>by
  have hv:Zgv t v=Zgv t' v:=by
   rw[h1 v List.mem_cons_self,h2 v List.mem_cons_self,Zqz h.1.2.2 ho]
  rcases List.mem_cons.1 hu with rfl | hu
  ·exact hv
  ·exact ZtB r (out++[v]) h.2 (all_in ho hv) (λu hu=>h1 u (List.mem_cons_of_mem _ hu)) (λu hu=>h2 u (List.mem_cons_of_mem _ hu)) u hu
where
 all_in {t t':Zw} {out:List Int} {v:Int} (ho:∀ u∈out,Zgv t u=Zgv t' u) (hv:Zgv t v=Zgv t' v):∀ u∈out++[v],Zgv t u=Zgv t' u:=λu hu=>by
  grind
theorem ZvQ {br:List Int} {t t':Zw} (hO:ZFU b br (ZaX b br).1) (ht:ZlJ (Vp b) t) (ht':ZlJ (Vp b) t') (h:Right b c (XY b br) l t) (h':Right b c (XY b br) l t'):t=t':=by
 have:=ZtB (t:=t) (t':=t') (ZaX b br).1 [] hO.ord (λu hu=>by cases hu) (λu hu=>h u (hO.inn u hu).1 (hO.inn u hu).2) (λu hu=>h' u (hO.inn u hu).1 (hO.inn u hu).2);exact ZEr ht ht' λk hk=>this _ (hO.all _ (by omega) (by omega))
noncomputable def ZqB (b:Zd) (c:Zt) (live:List Bool) (l:List Zj):List Int->Zw->Bool×Zw
 | [],t=>(true,t)
 | v::r,t=>match ZBA (newV b c live l t v) with
  | true=>(false,noT)
  | false=>ZqB b c live l r (Znl t v.toNat (newV b c live l t v))
theorem ZrP {t:Zw} {n:Nat} (hst:∀ (t:Zw) (u:Int),ZlJ n t->StB (ZiC b c live l t u)) (ht:ZlJ n t) (k:Nat) (v:Int):ZlJ n (Znl t k (newV b c live l t v)):=ZAQ ht _ (ZCF (hst t v ht) _)
theorem ZAR {t:Zw} {n:Nat} (ht:ZlJ n t) {out:List Int} {v:Int} (h0:0<=v) (hvn:v<(n:Int)) (hv:v ∉ out) (hr:Rdy live (Zl b) out v) (hc:∀ u∈out,Rdy live (Zl b) out u) (hR:∀ u∈out,Zgv t u=ZvS (newV b c live l t u)) :
  let t':=Znl t v.toNat (newV b c live l t v)
  (∀ u∈out++[v],Rdy live (Zl b) (out++[v]) u)/\(∀ u∈out++[v],Zgv t' u=ZvS (newV b c live l t' u))/\(∀ u:Int,u≠v->Zgv t' u=Zgv t u)/\Zgv t' v=ZvS (newV b c live l t v):=by
 have hne:∀ u:Int,u≠v->Zgv (Znl t v.toNat (newV b c live l t v)) u=Zgv t u:=λu hu=>Zps (by omega);have heq:Zgv (Znl t v.toNat (newV b c live l t v)) v=ZvS (newV b c live l t v):=by
  have:=ZtC ht (k:=v.toNat) (by omega) (newV b c live l t v);grind
 have hout:∀ u∈out,Zgv (Znl t v.toNat (newV b c live l t v)) u=Zgv t u:=λu hu=>hne u (λe=>hv (e▸hu));refine ⟨λu hu=>?_,λu hu=>?_,hne,heq⟩
 ·rcases List.mem_append.1 hu with q | q
  ·exact (hc u q).mono λx hx=>List.mem_append.2 (.inl hx)
  ·rw[List.mem_singleton.1 q];exact hr.mono λx hx=>List.mem_append.2 (.inl hx)
 ·rcases List.mem_append.1 hu with q | q
  ·rw[hout u q,hR u q,Zqz (hc u q) hout]
  ·rw[List.mem_singleton.1 q,heq,Zqz hr hout]
theorem ZA0 {n:Nat} (hst:∀ (t:Zw) (u:Int),ZlJ n t->StB (ZiC b c live l t u)):∀ (r out:List Int) (t:Zw),ZpP live (Zl b) out r->(∀ u∈r,u<(n:Int))->ZlJ n t->(∀ u∈out,Rdy live (Zl b) out u)->(∀ u∈out,Zgv t u=ZvS (newV b c live l t u)/\Zyv (Zgv t u))->
  (ZqB b c live l r t).1=true->ZlJ n (ZqB b c live l r t).2/\∀ u∈out++r,Zgv (ZqB b c live l r t).2 u=ZvS (newV b c live l (ZqB b c live l r t).2 u)/\Zyv (Zgv (ZqB b c live l r t).2 u)
 | [],out,t,_,_,ht,_,hR,_=>by rw[List.append_nil];exact ⟨ht,hR⟩
 | v::r,out,t,h,hn,ht,hc,hR,hok=>by
  unfold ZqB at hok ⊢;cases hb:ZBA (newV b c live l t v) with
  | true=>grind
  | false =>
   rw[hb] at hok;obtain ⟨k1,k2,k3,k4⟩:=ZAR ht h.1.1 (hn v List.mem_cons_self) h.1.2.1 h.1.2.2 hc λu hu=>(hR u hu).1;have:=ZA0 hst r (out++[v]) (Znl t v.toNat (newV b c live l t v)) h.2 (λu hu=>hn u (List.mem_cons_of_mem _ hu)) (ZrP hst ht _ _) k1 (λu hu=>⟨k2 u hu,by
    rcases List.mem_append.1 hu with q | q
    ·grind
    ·rw[List.mem_singleton.1 q,k4];exact Zxm.1 hb⟩) hok
   grind
theorem ZvT {n:Nat} {T:Zw} (hst:∀ (t:Zw) (u:Int),ZlJ n t->StB (ZiC b c live l t u)):∀ (r out:List Int) (t:Zw),ZpP live (Zl b) out r->(∀ u∈r,u<(n:Int))->ZlJ n t->(∀ u∈out,Zgv t u=Zgv T u)->(∀ u∈r,Zgv T u=ZvS (newV b c live l T u)/\Zyv (Zgv T u))->(ZqB b c live l r t).1=true
 | [],_,_,_,_,_,_,_=>rfl
 | v::r,out,t,h,hn,ht,ho,hT=>by
  have hv:=hT v List.mem_cons_self;have e:newV b c live l t v=newV b c live l T v:=Zqz h.1.2.2 ho;have hvn:=hn v List.mem_cons_self;unfold ZqB;rw[show ZBA (newV b c live l t v)=false by rw[e,Zxm,<-hv.1];exact hv.2];refine ZvT hst r (out++[v]) _ h.2 (λu hu=>hn u (List.mem_cons_of_mem _ hu)) (ZrP hst ht _ _) (λu hu=>?_) (λu hu=>hT u (List.mem_cons_of_mem _ hu));rcases List.mem_append.1 hu with q | q
  ·rw[Zps (by intro z;exact h.1.2.1 (by rw[show v=u by have:=h.1.1;omega];exact q))]
   exact ho u q
  ·rw[List.mem_singleton.1 q]
   have:=ZtC ht (k:=v.toNat) (by have:=h.1.1;omega) (newV b c live l t v);rw[show ((v.toNat:Nat):Int)=v by have:=h.1.1;omega] at this;rw[this,e,hv.1]
end
def Live (L:List Zm) (lv:List Bool) (a c:Int):Prop:=∃ (k:Nat) (l:Zm),L[k]?=some l/\lv[k]?=some true/\Zm.From l=a/\Zm.To l=c
inductive Rch (L:List Zm) (lv:List Bool) (S:Int->Prop):Int->Prop
 | base {a:Int}:S a->Rch L lv S a
 | step {a c:Int}:Rch L lv S a->Live L lv a c->Rch L lv S c
theorem Rch.sub {L:List Zm} {lv:List Bool} {S T:Int->Prop} (h0:∀ a,S a->T a) (h1:∀ a c,T a->Live L lv a c->T c) {a:Int} (h:Rch L lv S a):T a:=by
 induction h with
 | base h=>exact h0 _ h
 | step _ hl ih=>exact h1 _ _ ih hl
theorem Rch.mono {L:List Zm} {lv:List Bool} {S T:Int->Prop} (h0:∀ a,S a->T a) {a:Int} (h:Rch L lv S a):Rch L lv T a:=h.sub (λa ha=>.base (h0 a ha)) (λa c ha hl=>.step ha hl)
def wt:List (List Int)->List Bool->Nat
 | x::xs,b::bs=>(if b=true then 0 else 1+x.length)+wt xs bs
 | _,_=>0
theorem ZDt:∀ (l1:List (List Int)) (l2:List Bool) (i:Nat) (x:List Int),l1[i]?=some x->l2[i]?=some false->wt l1 (l2.set i true)+(1+x.length)=wt l1 l2
 | [],_,_,_,h,_=>by simp at h
 | _::_,[],_,_,_,h=>by simp at h
 | y::l1,b::l2,0,x,h1,h2=>by
  simp at h1 h2;subst h1;subst h2;simp[wt];omega
 | y::l1,b::l2,i+1,x,h1,h2=>by
  have:=ZDt l1 l2 i x (by simpa using h1) (by simpa using h2);simp only[List.set_cons_succ,wt];omega
theorem ZG8:∀ (l1:List (List Int)) (l2:List Bool) (m:Nat),(∀ x∈l1,x.length<=m)->wt l1 l2<=(1+m)*l1.length
 | [],_,_,_=>by simp[wt]
 | _::_,[],_,_=>by simp[wt]
 | y::l1,b::l2,m,h=>by
  have h1:=ZG8 l1 l2 m (λx hx=>h x (by simp[hx]));have h2:=h y (by simp);simp only[wt,List.length_cons,Nat.mul_add,Nat.mul_one];grind
theorem Zr1 {α:Type} {l:List α} {i:Nat} {x:α} (h:l[i]?=some x):l.set i x=l:=by
 apply List.ext_getElem?;grind
def InN (N:Nat) (L:List Zm):Prop:=∀ l∈L,(0<=Zm.From l/\Zm.From l<(N:Int))/\(0<=Zm.To l/\Zm.To l<(N:Int))
structure ZHP (N:Nat) (L:List Zm) (lv:List Bool) (k:Nat) (nx:List (List Int)):Prop where
 len:nx.length=N
 short:∀ x∈nx,x.length<=k
 mem:∀ (a:Nat) (x:List Int),nx[a]?=some x->∀ c,c∈x<->∃ (j:Nat) (l:Zm),j<k/\L[j]?=some l/\lv[j]?=some true/\Zm.From l=(a:Int)/\Zm.To l=c
theorem Zy6 {g:ZI} {nodes:List Int} {N:Nat} (hN:(N:Int)=2*((ZF.ZC (ZI.view g)).length:Int)) (hNs:N<=1000) (hL:InN N (ZF.links (ZI.view g))) (hLs:(ZF.links (ZI.view g)).length<=6000)
  (hlv:(ZI.live g).length=(ZF.links (ZI.view g)).length) (hn:∀ a∈nodes,0<=a/\a<(N:Int)) (hnl:nodes.length<=1048576) :
  ∃ r,X3 g nodes ()=some r/\r.length=N/\∀ (a:Nat) (b:Bool),r[a]?=some b->(b=true<->Rch (ZF.links (ZI.view g)) (ZI.live g) (λa=>a∈nodes) (a:Int)):=by
 generalize hLL:ZF.links (ZI.view g)=L at *;unfold X3 Xc;rw[show YX (ZF.ZC (ZI.view g))=some ((ZF.ZC (ZI.view g)).length:Int) from rfl,Bq,Bq,<-hN,YT (n:=(N:Int)) (by omega) (by omega),Zh (by omega),Zh (by omega),Zh (by omega),Zh (by omega)];refine Zd4 (l:=L) (λk v=>v.1=(k:Int)/\ZHP N L (ZI.live g) k v.2.1) _ ⟨rfl,by simp,λx hx=>by
  grind,λa x hx c=>by
  grind⟩ ?_ ?_
 ·rintro k l ⟨i,nx,⟨⟩⟩ hl hk ⟨hi,hS⟩
  simp only at hi hS;subst hi;have hlb:=hL l (List.mem_of_getElem? hl);have hlv1:(ZI.live g)[k]?=some (ZI.live g)[k]:=List.getElem?_eq_getElem (by omega);generalize (ZI.live g)[k]=bl at hlv1;have hnl2:=hS.len;obtain ⟨x,hx1,hxm⟩:=Zgi (l:=nx) hlb.1.1 (by omega);have hxa:nx[(Zm.From l).toNat]?=some x:=by
   have:=hx1;unfold atI at this;grind
  have hsh:=hS.short x hxm;simp only[Qh,hLL,show (k:Int)<(L.length:Int) from by omega,if_true,Zp,hl,Zlg,hlv1,hx1,Bq];by_cases hb:bl=true
  ·rw[if_pos hb,Zh (by simp;omega),Xm (by omega)]
   subst hb;refine ⟨_,rfl,rfl,by simp[hnl2],?_,?_⟩
   ·intro y hy
    rcases List.mem_or_eq_of_mem_set hy with hy | rfl
    ·have:=hS.short y hy;omega
    ·simp;omega
   ·intro a y hy c
    simp only at hy;rw[List.getElem?_set] at hy;split at hy
    ·rename_i ea
     rw[if_pos (by omega)] at hy;injection hy with hy
     subst hy;rw[List.mem_append,List.mem_singleton,hS.mem _ x hxa c];grind
    ·rename_i ea
     rw[hS.mem a y hy c];grind
  ·rw[if_neg hb,Xm (by omega)]
   have hbf:bl=false:=by simpa using hb
   subst hbf;refine ⟨_,rfl,rfl,hnl2,λy hy=>by have:=hS.short y hy;omega,λa y hy c=>?_⟩;rw[hS.mem a y hy c];grind
 ·rintro ⟨i,nx,⟨⟩⟩ ⟨hi,hS⟩
  simp only at hi hS;subst hi;have hnl2:=hS.len;simp only[Qh,hLL,Int.lt_irrefl,if_false];unfold Xk;rw[Zh (by omega),Zh (by simp;omega),Bq];have hmemL:∀ (a:Nat) (x:List Int),nx[a]?=some x->∀ c,c∈x<->Live L (ZI.live g) (a:Int) c:=by
   intro a x hx c;rw[hS.mem a x hx c];constructor
   ·rintro ⟨j,l',h1,h2,h3,h4,h5⟩;exact ⟨j,l',h2,h3,h4,h5⟩
   ·rintro ⟨j,l',h2,h3,h4,h5⟩;grind
  have hw0:=ZG8 nx (List.replicate N false) L.length hS.short;have hmul:(1+L.length)*nx.length<=6001*1000:=Nat.mul_le_mul (by omega) (by omega);have:=ZeD (σ:=List Int×List (List Int)×List Bool×Unit) (ρ:=(Int×List (List Int)×Unit) ⊕ List Bool) (step:=λv=>Qg v.1 v.2.1 v.2.2.1)
   (λv=>v.2.1=nx/\v.2.2.1.length=N/\v.1.length+wt nx v.2.2.1<=8000000/\
    (∀ a∈v.1,0<=a/\a<(N:Int)/\Rch L (ZI.live g) (λa=>a∈nodes) a)/\
    (∀ (a:Nat),v.2.2.1[a]?=some true->Rch L (ZI.live g) (λa=>a∈nodes) (a:Int))/\
    (∀ a∈nodes,a∈v.1\/v.2.2.1[a.toNat]?=some true)/\
    (∀ (a:Nat) (c:Int),v.2.2.1[a]?=some true->Live L (ZI.live g) (a:Int) c->c∈v.1\/v.2.2.1[c.toNat]?=some true))
   (λv=>v.1.length+wt nx v.2.2.1)
   (λr=>∃ r',r=.inr r'/\r'.length=N/\∀ (a:Nat) (b:Bool),r'[a]?=some b->(b=true<->Rch L (ZI.live g) (λa=>a∈nodes) (a:Int)))
   (v:=([]++nodes,nx,List.replicate (Int.toNat (N:Int)) false,()))
   ⟨rfl,by simp,by grind,λa ha=>by
     simp only[List.nil_append] at ha;exact ⟨(hn a ha).1,(hn a ha).2,.base ha⟩,λa ha=>(by
     grind),λa ha=>.inl (by simpa using ha),λa c ha _=>(by
     grind)⟩
   (by
    rintro ⟨op,nx',rc,⟨⟩⟩ ⟨e1,e2,e3,e4,e5,e6,e7⟩;simp only at e1 e2 e3 e4 e5 e6 e7;subst e1;simp only[Qg];cases op with
    | nil =>
     rw[if_neg (by simp)];refine .inr ⟨_,rfl,rc,rfl,e2,λa b hb=>?_⟩;constructor
     ·grind
     ·intro h
      have hall:∀ c:Int,Rch L (ZI.live g) (λa=>a∈nodes) c->(0<=c/\rc[c.toNat]?=some true):=by
       intro c hc;refine hc.sub (T:=λc=>0<=c/\rc[c.toNat]?=some true) (λa ha=>⟨(hn a ha).1,?_⟩) (λa c ha hl=>?_)
       ·grind
       ·obtain ⟨k,l,h1,_,_,h4⟩:=id hl
        have hb2:=hL l (List.mem_of_getElem? h1);have hl':Live L (ZI.live g) ((a.toNat:Nat):Int) c:=by rw[show ((a.toNat:Nat):Int)=a by omega];exact hl
        grind
      have:=(hall (a:Int) h).2
      simp_all
    | cons x0 rest =>
     obtain ⟨hx0,hxN,hxR⟩:=e4 x0 (by simp);have hdr:List.take (Int.toNat (((x0::rest).length:Nat):Int)-Int.toNat (1:Int)) (List.drop (Int.toNat (1:Int)) (x0::rest))=rest:=by simp
     obtain ⟨b0,hb1,_⟩:=Zgi (l:=rc) hx0 (by omega);have hba:rc[x0.toNat]?=some b0:=by
      have:=hb1;unfold atI at this;grind
     rw[if_pos (by grind),show atI (x0::rest) (0:Int)=some x0 from rfl,Bq,Zh (by grind),Zh (by omega),hb1,Bq];simp only[hdr];simp only[List.length_cons] at e3;by_cases hb:b0=true
     ·subst hb
      rw[if_pos rfl];refine .inl ⟨_,rfl,⟨rfl,e2,by simp only;omega,λa ha=>e4 a (by simp[ha]),e5,λa ha=>?_,λa c ha hl=>?_⟩,by grind⟩;all_goals grind
     ·have hbf:b0=false:=by simpa using hb
      subst hbf;obtain ⟨x2,hx2,hx2m⟩:=Zgi (l:=nx') hx0 (by omega);have hxa:nx'[x0.toNat]?=some x2:=by
       have:=hx2;unfold atI at this;grind
      have hwt:=ZDt nx' rc x0.toNat x2 hxa hba;have hx0n:((x0.toNat:Nat):Int)=x0:=by omega
      rw[if_neg hb,hx2,Bq,Zh (by omega),Zr1 hxa];have up:∀ a:Nat,rc[a]?=some true->(rc.set x0.toNat true)[a]?=some true:=by
       intro a ha;rw[List.getElem?_set];split;all_goals grind
      have at0:(rc.set x0.toNat true)[x0.toNat]?=some true:=by grind
      refine .inl ⟨_,rfl,⟨rfl,by simp[e2],by grind,λa ha=>?_,λa ha=>?_,λa ha=>?_,λa c ha hl=>?_⟩,by grind⟩
      ·rcases List.mem_append.1 ha with ha | ha
       ·exact e4 a (by simp[ha])
       ·have hl:=(hmemL _ x2 hxa a).1 ha
        rw[hx0n] at hl;obtain ⟨k,l,h1,_,_,h4⟩:=id hl;have hb2:=hL l (List.mem_of_getElem? h1);exact ⟨by omega,by omega,.step hxR hl⟩
      ·simp only at ha
       rw[List.getElem?_set] at ha;split at ha;all_goals grind
      ·rcases e6 a ha with h | h
       all_goals grind
      ·simp only at ha
       rw[List.getElem?_set] at ha;split at ha
       ·grind
       ·rcases e7 a c ha hl with h | h
        all_goals grind)
  grind
def Zdp {α:Type} (key:α->Int) (l:List α):Prop:=l.Pairwise λx y=>key x<key y
theorem key_eq {α:Type} {key:α->Int}:∀ {a b:List α},Zdp key a->Zdp key b->(∀ x,x∈a<->x∈b)->a=b
 | [],[],_,_,_=>rfl
 | [],y::b,_,_,h=>by have:=(h y).2 List.mem_cons_self;cases this
 | x::a,[],_,_,h=>by have:=(h x).1 List.mem_cons_self;cases this
 | x::a,y::b,ha,hb,h=>by
  obtain ⟨a1,a2⟩:=List.pairwise_cons.1 ha;obtain ⟨b1,b2⟩:=List.pairwise_cons.1 hb;have exy:x=y:=by
   rcases List.mem_cons.1 ((h x).1 List.mem_cons_self) with e | q
   ·exact e
   ·rcases List.mem_cons.1 ((h y).2 List.mem_cons_self) with e | q2
    ·exact e.symm
    ·have:=a1 y q2
     have:=b1 x q;omega
  subst exy;rw[key_eq a2 b2 λz=>?_];constructor
  ·intro hz
   rcases List.mem_cons.1 ((h z).1 (List.mem_cons_of_mem _ hz)) with e | q
   ·have:=a1 z hz;rw[e] at this;omega
   ·exact q
  ·intro hz
   rcases List.mem_cons.1 ((h z).2 (List.mem_cons_of_mem _ hz)) with e | q
   ·have:=b1 z hz;rw[e] at this;omega
   ·exact q
def Zax {α:Type} (key:α->Int) (k:Int):List α->Nat
 | []=>0
 | x::l=>if key x<k then Zax key k l+1 else 0
theorem Zpk {α:Type} (key:α->Int) (k:Int):∀ l:List α,Zax key k l<=l.length
 | []=>Nat.le_refl _
 | x::l=>by
  unfold Zax;split
  ·have:=Zpk key k l
   rw[List.length_cons];omega
  ·exact Nat.zero_le _
theorem Zm9 {α:Type} (key:α->Int) (k:Int):∀ (l:List α) (x:α),x∈l.take (Zax key k l)->key x<k
 | [],x,h=>by simp at h
 | y::l,x,h=>by
  unfold Zax at h;split at h
  ·rename_i q
   rw[List.take_succ_cons] at h;rcases List.mem_cons.1 h with rfl | h
   ·exact q
   ·exact Zm9 key k l x h
  ·rw[List.take_zero] at h;cases h
theorem Zlu {α:Type} {key:α->Int} {k:Int}:∀ {l:List α},Zdp key l->∀ x,x∈l.drop (Zax key k l)->k<=key x
 | [],_,x,h=>by simp at h
 | y::l,hl,x,h=>by
  obtain ⟨h1,h2⟩:=List.pairwise_cons.1 hl;unfold Zax at h;split at h
  ·rw[List.drop_succ_cons] at h
   exact Zlu h2 x h
  ·rename_i q
   rw[List.drop_zero] at h;rcases List.mem_cons.1 h with rfl | h
   ·omega
   ·have:=h1 x h;omega
def ZpJ {α:Type} (key:α->Int) (l:List α) (a b:α):List α:=l.take (Zax key (key a) l)++a::b::l.drop (Zax key (key a) l)
theorem Zy3 {α:Type} {key:α->Int} {l:List α} {a b:α} (hl:Zdp key l) (hab:key a<key b) (h:∀ x∈l,key x<key a\/key b<key x):Zdp key (ZpJ key l a b):=by
 have hlo:=Zm9 key (key a) l;have hhi:=Zlu (k:=key a) hl;have hb:∀ x∈l.drop (Zax key (key a) l),key b<key x:=λx hx=>by
  have h1:=hhi x hx;rcases h x (List.mem_of_mem_drop hx) with q | q
  ·omega
  ·exact q
 unfold ZpJ Zdp;refine List.pairwise_append.2 ⟨hl.sublist (List.take_sublist _ _),List.Pairwise.cons ?_ (List.Pairwise.cons hb (hl.sublist (List.drop_sublist _ _))),?_⟩
 ·intro x hx
  rcases List.mem_cons.1 hx with rfl | hx
  ·exact hab
  ·have:=hb x hx;omega
 ·intro x hx y hy
  have h1:=hlo x hx;rcases List.mem_cons.1 hy with rfl | hy
  ·exact h1
  ·rcases List.mem_cons.1 hy with rfl | hy
   ·omega
   ·have:=hb y hy;omega
theorem Zex {α:Type} {key:α->Int} {l:List α} {a b x:α}:x∈ZpJ key l a b<->x=a\/x=b\/x∈l:=by
 unfold ZpJ;rw[List.mem_append,List.mem_cons,List.mem_cons];constructor
 ·rintro (h | h | h | h)
  ·exact .inr (.inr (List.mem_of_mem_take h))
  ·exact .inl h
  ·exact .inr (.inl h)
  ·exact .inr (.inr (List.mem_of_mem_drop h))
 ·rintro (h | h | h)
  ·exact .inr (.inl h)
  ·exact .inr (.inr (.inl h))
  ·rw[<-List.take_append_drop (Zax key (key a) l) l] at h
   rcases List.mem_append.1 h with q | q
   ·exact .inl q
   ·exact .inr (.inr (.inr q))
theorem ZrT {α:Type} {key:α->Int} {k:Int}:∀ {l:List α},Zdp key l->((∃ x∈l,key x=k)<->∃ x,l[Zax key k l]?=some x/\key x=k)
 | [],_=>by simp[Zax]
 | y::l,hl=>by
  obtain ⟨h1,h2⟩:=List.pairwise_cons.1 hl;unfold Zax;split
  ·rename_i q
   rw[List.getElem?_cons_succ,<-ZrT h2];constructor
   ·rintro ⟨x,hx,e⟩
    rcases List.mem_cons.1 hx with rfl | hx
    ·omega
    ·exact ⟨x,hx,e⟩
   ·rintro ⟨x,hx,e⟩
    exact ⟨x,List.mem_cons_of_mem _ hx,e⟩
  ·rename_i q
   rw[List.getElem?_cons_zero];constructor
   ·rintro ⟨x,hx,e⟩
    rcases List.mem_cons.1 hx with rfl | hx
    ·exact ⟨x,rfl,e⟩
    ·have:=h1 x hx;omega
   ·rintro ⟨x,hx,e⟩
    injection hx with hx
    subst hx;exact ⟨_,List.mem_cons_self,e⟩
abbrev RR (L:List Zm) (lv:List Bool) (a c:Int):Prop:=Rch L lv (λx=>x=a) c
def NT (L:List Zm) (lv:List Bool) (v:Int):Prop:=∃ c,Live L lv c v/\RR L lv v c
section
variable {N:Nat} {L:List Zm} {lv:List Bool}
theorem RR.refl (a:Int):RR L lv a a:=.base rfl
theorem RR.trans {a b c:Int} (h1:RR L lv a b) (h2:RR L lv b c):RR L lv a c:=by
 induction h2 with
 | base e=>rw[e];exact h1
 | step _ hl ih=>exact .step ih hl
theorem ZwN (hL:InN N L) {a c:Int} (h:Live L lv a c):(0<=a/\a<(N:Int))/\(0<=c/\c<(N:Int)):=by
 obtain ⟨k,l,h1,_,rfl,rfl⟩:=h;exact hL l (List.mem_of_getElem? h1)
theorem NT.inn (hL:InN N L) {v:Int} (h:NT L lv v):0<=v/\v<(N:Int):=by
 obtain ⟨c,hl,_⟩:=h;exact (ZwN hL hl).2
theorem ZAA {u v:Int} (h1:RR L lv u v) (h2:RR L lv v u) (hne:u≠v):NT L lv u:=by
 cases h2 with
 | base e=>exact absurd e hne
 | @step c _ rc hl=>exact ⟨c,hl,h1.trans rc⟩
theorem Zwr {S:List Int} (hS:∀ c∈S,∀ a,Live L lv a c->a∈S) {v c:Int} (h:RR L lv v c) (hc:c∈S):v∈S:=by
 induction h with
 | base e=>rw[<-e];exact hc
 | step _ hl ih=>exact ih (hS _ hc _ hl)
theorem Zyj {out:List Int} {v a:Int} (h:Rdy lv L out v) (hl:Live L lv a v):a∈out:=by
 obtain ⟨k,l,h1,h2,rfl,h4⟩:=hl;exact h k l h1 (by rw[h2];rfl) h4
theorem Zre {v:Int}:∀ (r out:List Int),ZpP lv L out r->(∀ c∈out,∀ a,Live L lv a c->a∈out)->v∈r->∃ S:List Int,v ∉ S/\(∀ c∈S,∀ a,Live L lv a c->a∈S)/\∀ a,Live L lv a v->a∈S
 | [],_,_,_,h=>by cases h
 | u::r,out,hI,hC,h=>by
  by_cases e:v=u
  ·subst e
   exact ⟨out,hI.1.2.1,hC,λa ha=>Zyj hI.1.2.2 ha⟩
  ·refine Zre r (out++[u]) hI.2 (λc hc a ha=>?_) (by
    rcases List.mem_cons.1 h with h | h
    ·exact absurd h e
    ·exact h)
   rcases List.mem_append.1 hc with hc | hc
   ·exact List.mem_append.2 (.inl (hC c hc a ha))
   ·rw[List.mem_singleton.1 hc] at ha
    exact List.mem_append.2 (.inl (Zyj hI.1.2.2 ha))
theorem Zva {α:Type} {p q:α->Bool}:∀ {l:List α},(∀ x∈l,p x=true->q x=true)->(∃ x∈l,q x=true/\p x=false)->l.countP p<l.countP q
 | [],_,⟨x,hx,_⟩=>by cases hx
 | a::l,h,⟨x,hx,h1,h2⟩=>by
  have hm:l.countP p<=l.countP q:=List.countP_mono_left λx hx=>h x (List.mem_cons_of_mem _ hx);rw[List.countP_cons,List.countP_cons];rcases List.mem_cons.1 hx with rfl | hx
  ·rw[h1,h2]
   simp only[if_true,Bool.false_eq_true,if_false];omega
  ·have ih:=Zva (λx hx=>h x (List.mem_cons_of_mem _ hx)) ⟨x,hx,h1,h2⟩
   have ha:=h a List.mem_cons_self;by_cases c:p a=true
   ·rw[if_pos c,if_pos (ha c)];omega
   ·rw[if_neg c];omega
theorem descent {P:Int->Prop} (hP:∀ v,P v->(0<=v/\v<(N:Int))/\∃ c,P c/\Live L lv c v) (hF:∀ v,¬NT L lv v):∀ (m:Nat) (v:Int),P v->(Zmu N).countP (λu=>tr (RR L lv u v))<m->False
 | 0,_,_,h=>Nat.not_lt_zero _ h
 | m+1,v,hv,h=>by
  obtain ⟨hr,c,hc,hl⟩:=hP v hv;refine descent hP hF m c hc (Nat.lt_of_lt_of_le (Zva (λx _ hx=>?_) ⟨v,Zjh.2 hr,ZR (RR.refl v),ZP λq=>hF v ⟨c,hl,q⟩⟩) (Nat.lt_succ_iff.1 h));exact ZR (Rch.step ((Xx _).1 hx) hl)
theorem ZzL {out:List Int} {v:Int} (h:∀ (k:Nat) (x:Zm),L[k]?=some x->cw lv out v k x=0):ZkU lv L out v=0:=by
 have:∀ k,k<=L.length->ZkU lv (L.take k) out v=0:=by
  intro k;induction k with
  | zero=>intro _;rfl
  | succ k ih =>
   intro hk;have hx:L[k]?=some (L[k]'(by omega)):=List.getElem?_eq_getElem _;rw[Zb9 hx,ih (by omega),h k _ hx]
 have h2:=this L.length (Nat.le_refl _);rw[List.take_length] at h2;exact h2
theorem ZvL (n:Nat):(Zmu n).Nodup:=by
 unfold Zmu;rw[List.nodup_iff_pairwise_ne,List.pairwise_map];refine List.Pairwise.imp ?_ (List.nodup_iff_pairwise_ne.1 List.nodup_range);intro a b h e;exact h (by omega)
theorem Zq0 (hL:InN N L) (hF:∀ v,¬NT L lv v):∀ (m:Nat) (out:List Int),out.length+m=N->(ZvH lv L N m out).2=true
 | 0,_,_=>rfl
 | m+1,out,hm=>by
  unfold ZvH;cases e:nxt lv L N out with
  | some v=>exact Zq0 hL hF m (out++[(v:Int)]) (by rw[List.length_append];simp only[List.length_cons,List.length_nil];omega)
  | none =>
   exfalso;unfold nxt at e;rw[List.find?_range_eq_none] at e;have hex:∃ v:Int,(0<=v/\v<(N:Int))/\v ∉ out:=Classical.byContradiction λq=>by
    have:=Zoe (Zmu N) out (ZvL N) (λx hx=>Classical.byContradiction λz=>q ⟨x,Zjh.1 hx,z⟩);rw[Zpm] at this;omega
   obtain ⟨v,hv⟩:=hex;refine descent (P:=λv=>(0<=v/\v<(N:Int))/\v ∉ out) (λv hv=>⟨hv.1,?_⟩) hF _ v hv (Nat.lt_succ_self _);refine Classical.byContradiction λq=>?_;have h0:=e v.toNat (by omega);have hvn:((v.toNat:Nat):Int)=v:=by omega
   rw[hvn] at h0;have hz:ZkU lv L out v=0:=ZzL λk x hx=>by
    unfold cw;split
    ·rename_i hk
     split
     ·rename_i ht
      split
      ·rfl
      ·rename_i hfr
       have hlk:lv[k]?=some true:=by
        cases e2:lv[k]? with
        | none=>rw[e2] at hk;cases hk
        | some z=>rw[e2] at hk;exact congrArg some hk
       exact absurd ⟨Zm.From x,⟨(hL x (List.mem_of_getElem? hx)).1,hfr⟩,k,x,hx,hlk,rfl,ht⟩ q
     ·rfl
    ·rfl
   rw[decide_eq_true hv.2,decide_eq_true hz] at h0;cases h0
end
theorem Zi9 {b:Zd} (h:Xy b):InN (Vp b) (Zl b):=λl hl=>by
 have:=Zg0 h hl;have e:=nN b;omega
theorem ZyY {b:Zd} {br:List Int} (h:Xy b) (hO:(ZaX b br).2=true) (v:Int):¬NT (Zl b) (XY b br) v:=by
 intro hv;obtain ⟨c,hl,hr⟩:=hv;have hok:=ZAI hO;have hin:=(ZwN (Zi9 h) hl).2;obtain ⟨S,s1,s2,s3⟩:=Zre (v:=v) _ [] hok.ord (λc hc=>by cases hc) (hok.all v hin.1 hin.2);exact s1 (Zwr s2 hr (s3 c hl))
theorem Ztj {b:Zd} {br:List Int} (h:Xy b) (hF:∀ v,¬NT (Zl b) (XY b br) v):(ZaX b br).2=true :=
 Zq0 (Zi9 h) hF (Vp b) [] (by simp)
structure Zzm (N:Nat) (L:List Zm) (lv:List Bool) (v:Int) (m:List Int):Prop where
 mem:∀ c,c∈m<->((0<=c/\c<(N:Int))/\RR L lv v c/\RR L lv c v)
 inc:Zdp (λc:Int=>c) m
theorem Zzm.unique {N:Nat} {L:List Zm} {lv:List Bool} {v:Int} {m m':List Int} (h:Zzm N L lv v m) (h':Zzm N L lv v m'):m=m' :=
 key_eq h.inc h'.inc λx=>(h.mem x).trans (h'.mem x).symm
def Zb8 (N:Nat) (L:List Zm) (lv:List Bool) (v:Int):List (List Int)->Prop
 | []=>∀ u,0<=u->u<v->¬NT L lv u
 | m::_=>∃ w,(0<=w/\w<v)/\NT L lv w/\(∀ u,0<=u->u<w->¬NT L lv u)/\Zzm N L lv w m
theorem Zb8.skip {N:Nat} {L:List Zm} {lv:List Bool} {v:Int} {r:List (List Int)} (h:Zb8 N L lv v r) (hn:r=[]->¬NT L lv v):Zb8 N L lv (v+1) r:=by
 cases r with
 | nil =>
  intro u h0 h1;by_cases e:u=v
  ·rw[e];exact hn rfl
  ·exact h u h0 (by omega)
 | cons m t =>
  obtain ⟨w,h1,h2,h3,h4⟩:=h;exact ⟨w,⟨h1.1,by omega⟩,h2,h3,h4⟩
theorem Zb8.add {N:Nat} {L:List Zm} {lv:List Bool} {v:Int} {r:List (List Int)} (h:Zb8 N L lv v r) {m:List Int} (h0:0<=v) (hn:NT L lv v) (hm:Zzm N L lv v m):Zb8 N L lv (v+1) (r++[m]):=by
 cases r with
 | nil=>exact ⟨v,⟨h0,by omega⟩,hn,h,hm⟩
 | cons a t =>
  obtain ⟨w,h1,h2,h3,h4⟩:=h;exact ⟨w,⟨h1.1,by omega⟩,h2,h3,h4⟩
theorem Zb8.unique {N:Nat} {L:List Zm} {lv:List Bool} {v:Int} {r r':List (List Int)} (h:Zb8 N L lv v r) (h':Zb8 N L lv v r'):(r=[]/\r'=[])\/∃ m t t',r=m::t/\r'=m::t':=by
 cases r with
 | nil =>
  cases r' with
  | nil=>exact .inl ⟨rfl,rfl⟩
  | cons m' t' =>
   obtain ⟨w,h1,h2,_⟩:=h';exact absurd h2 (h w h1.1 h1.2)
 | cons m t =>
  obtain ⟨w,h1,h2,h3,h4⟩:=h;cases r' with
  | nil=>exact absurd h2 (h' w h1.1 h1.2)
  | cons m' t' =>
   obtain ⟨w',g1,g2,g3,g4⟩:=h';have e:w=w':=by
    rcases Int.lt_trichotomy w w' with q | q | q
    ·exact absurd h2 (g3 w h1.1 q)
    ·exact q
    ·exact absurd g2 (h3 w' g1.1 q)
   subst e;have:=h4.unique g4;subst this;exact .inr ⟨m,t,t',rfl,rfl⟩
theorem Zzm.two {N:Nat} {L:List Zm} {lv:List Bool} {v:Int} {m:List Int} (hL:InN N L) (h:Zzm N L lv v m) (hv:0<=v/\v<(N:Int)):NT L lv v<->(1<m.length\/Live L lv v v):=by
 have hvm:v∈m:=(h.mem v).2 ⟨hv,RR.refl v,RR.refl v⟩;constructor
 ·rintro ⟨c,hl,hr⟩
  by_cases e:c=v
  ·rw[e] at hl;exact .inr hl
  ·left
   have hcm:c∈m:=(h.mem c).2 ⟨(ZwN hL hl).1,hr,.step (RR.refl c) hl⟩
   match m,hvm,hcm with
   | [a],h1,h2=>exact absurd ((List.mem_singleton.1 h2).trans (List.mem_singleton.1 h1).symm) e
   | a::b::t,_,_=>simp only[List.length_cons];omega
 ·rintro (hlen | hl)
  ·have hnd:m.Nodup:=by
    rw[List.nodup_iff_pairwise_ne];exact List.Pairwise.imp (λ{a b} (h:a<b) (e:a=b)=>by omega) h.inc
   obtain ⟨a,ha,hav⟩:=nodup_other' v hnd hlen;obtain ⟨_,r1,r2⟩:=(h.mem a).1 ha;exact ZAA r1 r2 (Ne.symm hav)
  ·exact ⟨v,hl,RR.refl v⟩
where
 nodup_other' (v:Int):∀ {m:List Int},m.Nodup->1<m.length->∃ a,a∈m/\a≠v
  | [],_,h=>by simp at h
  | [_],_,h=>by simp at h
  | a::b::r,hn,_=>by
   by_cases q:a=v
   ·exact ⟨b,by simp,λe=>by grind⟩
   ·exact ⟨a,by simp,q⟩
def cf (l:List Bool):Nat:=l.countP (λb=>!b)
theorem ZC7:∀ (l:List Bool) (i:Nat),l[i]?=some false->cf (l.set i true)+1=cf l
 | [],_,h=>by simp at h
 | b::l,0,h=>by simp at h;subst h;simp[cf]
 | b::l,i+1,h=>by
  have:=ZC7 l i (by simpa using h);unfold cf at this ⊢;simp only[List.set_cons_succ,List.countP_cons];omega
theorem bat {l:List Bool} {i:Int} {b:Bool} (h:atI l i=some b) (h0:0<=i):l[i.toNat]?=some b:=by
 unfold atI at h;rw[if_pos h0] at h;exact h
theorem ZGA {l:List Bool} {i:Nat} (a:Nat) (h:l[a]?=some true):(l.set i true)[a]?=some true:=by
 rw[List.getElem?_set];split
 ·have:=(List.getElem?_eq_some_iff.1 h).1
  rw[if_pos (by omega)]
 ·exact h
def Closed (L:List Zm) (lv:List Bool) (k:Nat) (s:List Bool):Prop:=∀ (j:Nat) (l:Zm),j<k->L[j]?=some l->lv[j]?=some true->s[(Zm.From l).toNat]?=some true->s[(Zm.To l).toNat]?=some true
structure ZHb (N:Nat) (L:List Zm) (lv:List Bool) (S:Int->Prop) (k:Nat) (s0:List Bool) (ch:Bool) (s:List Bool):Prop where
 len:s.length=N
 snd:∀ a:Nat,s[a]?=some true->Rch L lv S (a:Int)
 up:∀ a:Nat,s0[a]?=some true->s[a]?=some true
 still:ch=false->s=s0/\Closed L lv k s0
 less:cf s+(if ch=true then 1 else 0)<=cf s0
theorem round_eq {N:Nat} {L:List Zm} {lv:List Bool} {S:Int->Prop} (hL:InN N L) (hLs:L.length<=6000) (hlv:lv.length=L.length) {s0:List Bool} (h0:s0.length=N) (hs0:∀ a:Nat,s0[a]?=some true->Rch L lv S (a:Int)) :
  ∃ ch s,Zo (λv=>X9 L lv true v.1 v.2.1 v.2.2.1) (false,(0:Int),s0,())=some (.inl (ch,s,()))/\ZHb N L lv S L.length s0 ch s:=by
 obtain ⟨r,h1,ch,s,rfl,h3⟩:=Zd4 (l:=L) (ρ:=(Bool×List Bool×Unit) ⊕ List Bool) (step:=λv=>X9 L lv true v.1 v.2.1 v.2.2.1) (v:=(false,(0:Int),s0,()))
  (λk v=>v.2.1=(k:Int)/\ZHb N L lv S k s0 v.1 v.2.2.1) (λr=>∃ ch s,r=.inl (ch,s,())/\ZHb N L lv S L.length s0 ch s)
  ⟨rfl,h0,hs0,λa h=>h,λ_=>⟨rfl,λj l hj=>by omega⟩,by simp⟩
  (by
   rintro k l ⟨ch,i,s,⟨⟩⟩ hl hk ⟨hi,hR⟩;simp only at hi hR;subst hi;have hlb:=hL l (List.mem_of_getElem? hl);have hsl:=hR.len;have hlv1:lv[k]?=some lv[k]:=List.getElem?_eq_getElem (by omega);generalize lv[k]=bl at hlv1;obtain ⟨x3,hx3,_⟩:=Zgi (l:=s) hlb.1.1 (by omega);obtain ⟨x4,hx4,_⟩:=Zgi (l:=s) hlb.2.1 (by omega);have hb3:=bat hx3 hlb.1.1;have hb4:=bat hx4 hlb.2.1;simp only[X9,show (k:Int)<(L.length:Int) from by omega,if_true,Zp,hl,hlv1,hx3,hx4,Bq];have keep:(bl=true->x3=true->x4=true)->ZHb N L lv S (k+1) s0 ch s:=λhcl=>⟨hR.len,hR.snd,hR.up,λhch=>by
    obtain ⟨e1,e2⟩:=hR.still hch;refine ⟨e1,λj l' hj hl' hlv' hfr=>?_⟩;by_cases hjk:j=k
    ·subst hjk
     rw[hl] at hl';injection hl' with hl';subst hl'
     rw[hlv1] at hlv';injection hlv' with hlv'
     subst e1;rw[hb3] at hfr;injection hfr with hfr
     rw[hb4,hcl hlv' hfr]
    ·exact e2 j l' (by omega) hl' hlv' hfr,hR.less⟩
   by_cases hbl:bl=true
   ·subst hbl
    by_cases h3:x3=true
    ·subst h3
     by_cases h4:x4=true
     ·subst h4
      simp only[if_true];exact ⟨_,rfl,by simp only;rw[Xm (by omega)],keep (λ_ _=>rfl)⟩
     ·have h4f:x4=false:=by simpa using h4
      subst h4f;simp only[if_true,Bool.false_eq_true,if_false];have hcf:=ZC7 s (Zm.To l).toNat hb4;have hless:=hR.less;refine ⟨_,rfl,by simp only;rw[Xm (by omega)],by simp[hsl],λa ha=>?_,λa ha=>ZGA a (hR.up a ha),λh=>(by cases h),?_⟩
      ·simp only at ha
       rw[List.getElem?_set] at ha;split at ha
       ·rename_i e
        rw[<-e,show (((Zm.To l).toNat:Nat):Int)=Zm.To l by omega];have hfr:=hR.snd _ hb3;rw[show (((Zm.From l).toNat:Nat):Int)=Zm.From l by omega] at hfr;exact .step hfr ⟨k,l,hl,hlv1,rfl,rfl⟩
       ·exact hR.snd a ha
      ·simp only[if_true]
       have:(if ch=true then 1 else 0)<=1:=by split<;>omega
       omega
    ·have h3f:x3=false:=by simpa using h3
     subst h3f;simp only[if_true,Bool.false_eq_true,if_false];exact ⟨_,rfl,by simp only;rw[Xm (by omega)],keep (λ_ h=>by cases h)⟩
   ·have hblf:bl=false:=by simpa using hbl
    subst hblf;simp only[if_true,Bool.false_eq_true,if_false];exact ⟨_,rfl,by simp only;rw[Xm (by omega)],keep (λh=>by cases h)⟩)
  (by
   rintro ⟨ch,i,s,⟨⟩⟩ ⟨hi,hR⟩;simp only at hi hR;subst hi;simp only[X9,Int.lt_irrefl,if_false];exact ⟨_,rfl,ch,s,rfl,hR⟩)
 exact ⟨ch,s,h1,h3⟩
theorem ZtF {N:Nat} {L:List Zm} {lv:List Bool} (hNs:N<=1000) (hL:InN N L) (hLs:L.length<=6000) (hlv:lv.length=L.length) {node:Int} (hn:0<=node/\node<(N:Int)) :
  ∃ r,Zao (N:Int) L lv node true=some r/\r.length=N/\∀ (a:Nat) (b:Bool),r[a]?=some b->(b=true<->Rch L lv (λa=>a=node) (a:Int)):=by
 unfold Zao;obtain ⟨x,hx,_⟩:=Zgi (l:=List.replicate (Int.toNat (N:Int)) false) hn.1 (by simp;exact hn.2);rw[Zh (by omega),Zh (by omega),Zh (by omega),Zh (by omega),hx,Bq];have hnn:((node.toNat:Nat):Int)=node:=by omega
 have:=ZeD (σ:=Bool×List Bool×Unit) (ρ:=List Bool) (step:=λv=>VK L lv true v.1 v.2.1)
  (λv=>v.2.1.length=N/\(∀ a:Nat,v.2.1[a]?=some true->Rch L lv (λa=>a=node) (a:Int))/\v.2.1[node.toNat]?=some true/\(v.1=false->Closed L lv L.length v.2.1))
  (λv=>2*cf v.2.1+(if v.1=true then 1 else 0))
  (λr=>r.length=N/\∀ (a:Nat) (b:Bool),r[a]?=some b->(b=true<->Rch L lv (λa=>a=node) (a:Int)))
  (v:=(true,List.set (List.replicate (Int.toNat (N:Int)) false) (Int.toNat node) true,()))
  ⟨by simp,λa ha=>(by
   simp only at ha;rw[List.getElem?_set] at ha;split at ha
   ·rename_i e;rw[<-e];exact .base hnn
   ·rw[List.getElem?_replicate] at ha
    split at ha
    ·cases ha
    ·cases ha),(by simp only;rw[List.getElem?_set_self (by simp;omega)]),λh=>(by cases h)⟩
  (by
   rintro ⟨ch,s,⟨⟩⟩ ⟨e1,e2,e3,e4⟩;simp only at e1 e2 e3 e4;simp only[VK];by_cases hc:ch=true
   ·rw[if_pos hc]
    obtain ⟨ch',s',h1,hR⟩:=round_eq hL hLs hlv e1 e2;rw[h1];refine .inl ⟨_,rfl,⟨hR.len,hR.snd,hR.up _ e3,λh=>?_⟩,?_⟩
    ·obtain ⟨e,hcl⟩:=hR.still h
     simp only;rw[e];exact hcl
    ·have hless:=hR.less
     simp only[hc,if_true];by_cases hc':ch'=true
     ·simp only[hc',if_true] at hless ⊢;omega
     ·simp only[hc',if_false] at hless ⊢;omega
   ·rw[if_neg hc]
    have hcl:=e4 (by simpa using hc);refine .inr ⟨s,rfl,e1,λa b hb=>?_⟩;constructor
    ·intro h;subst h;exact e2 a hb
    ·intro h
     have hall:∀ c:Int,Rch L lv (λa=>a=node) c->(0<=c/\s[c.toNat]?=some true):=by
      intro c hc;refine hc.sub (T:=λc=>0<=c/\s[c.toNat]?=some true) (λa ha=>by subst ha;exact ⟨hn.1,e3⟩) (λa c ha hl=>?_);obtain ⟨k,l,h1,h2,h3,h4⟩:=hl;have hb2:=hL l (List.mem_of_getElem? h1);refine ⟨by omega,?_⟩;rw[<-h4];exact hcl k l (List.getElem?_eq_some_iff.1 h1).1 h1 h2 (by rw[h3];exact ha.2)
     have:=(hall (a:Int) h).2;rw[Int.toNat_natCast,hb] at this;injection this)
 exact this
def ZbO {α:Type} (o:Option α) (Q:α->Prop):Prop:=∃ a,o=some a/\Q a
theorem ZbO.ret {α:Type} {a:α} {Q:α->Prop} (h:Q a):ZbO (some a) Q:=⟨a,rfl,h⟩
theorem ZbO.bind {α β:Type} {o:Option α} {P:α->Prop} {f:α->Option β} {Q:β->Prop} (h:ZbO o P) (k:∀ a,P a->ZbO (f a) Q):ZbO (o.bind f) Q:=by
 obtain ⟨a,e,hp⟩:=h;rw[e];exact k a hp
theorem ZbO.guard {α:Type} {p:Prop} {o:Option α} {Q:α->Prop} (h:p) (k:ZbO o Q):ZbO (Zy p o) Q:=by rw[Zh h];exact k
theorem ZbO.ite {α:Type} {p:Prop} [Decidable p] {a b:Option α} {Q:α->Prop} (h1:p->ZbO a Q) (h2:¬p->ZbO b Q):ZbO (if p then a else b) Q:=by
 split
 ·exact h1 (by assumption)
 ·exact h2 (by assumption)
theorem ZbO.at {α β:Type} {l:List α} {i:Int} {f:α->Option β} {Q:β->Prop} (h0:0<=i) (h1:i<(l.length:Int)) (k:∀ x,x∈l->l[i.toNat]?=some x->ZbO (f x) Q):ZbO ((atI l i).bind f) Q:=by
 obtain ⟨x,e,hx⟩:=Zme h0 h1;rw[e];exact k x (List.mem_of_getElem? hx) hx
theorem ZbO.mono {α:Type} {o:Option α} {P Q:α->Prop} (h:ZbO o P) (k:∀ a,P a->Q a):ZbO o Q:=by
 obtain ⟨a,e,hp⟩:=h;exact ⟨a,e,k a hp⟩
theorem ZbO.of {α:Type} {o:Option α} {a:α} {Q:α->Prop} (e:o=some a) (h:Q a):ZbO o Q:=⟨a,e,h⟩
def Rnd {τ ρ:Type} (I:τ->Prop) (μ:τ->Nat) (m:Nat) (Q:ρ->Prop):τ ⊕ ρ->Prop
 | .inl v=>I v/\μ v<m
 | .inr r=>Q r
theorem ZbO.loop {τ ρ:Type} {step:τ->Option (τ ⊕ ρ)} (I:τ->Prop) (μ:τ->Nat) {Q:ρ->Prop} {v:τ} (h0:I v) (hs:∀ v,I v->ZbO (step v) (Rnd I μ (μ v) Q)):ZbO (Zo step v) Q:=by
 refine ZeD I μ Q h0 (λv hI=>?_);obtain ⟨r,e,h⟩:=hs v hI;cases r with
 | inl v'=>exact .inl ⟨v',e,h⟩
 | inr r=>exact .inr ⟨r,e,h⟩
def ZmK (L:List Zm):List Zm:=L.map (λl=>(Zm.To l,Zm.From l,Zm.Kind l,l.2.2.2))
theorem Zt7 (L:List Zm):(ZmK L).length=L.length:=List.length_map ..
theorem ZDA {α β:Type} (f:α->β) (l:List α) (i:Int):atI (l.map f) i=(atI l i).map f:=by
 unfold atI;grind
theorem Zy5 (n node:Int) (L:List Zm) (lv:List Bool):Zao n L lv node false=Zao n (ZmK L) lv node true:=by
 have e0:∀ (ch:Bool) (k:Int) (l1:List Bool),X9 L lv false ch k l1=X9 (ZmK L) lv true ch k l1:=by
  intro ch k l1;unfold X9;rw[Zt7];by_cases h:k<(L.length:Int)
  ·rw[if_pos h,if_pos h]
   unfold ZmK;rw[ZDA];cases atI L k with
   | none=>rfl
   | some x=>rfl
  grind
 have e1:∀ (ch:Bool) (l0:List Bool),VK L lv false ch l0=VK (ZmK L) lv true ch l0:=by
  intro ch l0;unfold VK;simp only[e0]
 unfold Zao;simp only[e1]
theorem ZvA {L:List Zm} {lv:List Bool} {a c:Int} (h:Live (ZmK L) lv a c):Live L lv c a:=by
 obtain ⟨k,l,h1,h2,h3,h4⟩:=h;unfold ZmK at h1;rw[List.getElem?_map,Option.map_eq_some_iff] at h1;obtain ⟨x,hx,rfl⟩:=h1;exact ⟨k,x,hx,h2,h4,h3⟩
theorem Zts {L:List Zm} {lv:List Bool} {a c:Int} (h:Live L lv c a):Live (ZmK L) lv a c:=by
 obtain ⟨k,l,h1,h2,h3,h4⟩:=h;exact ⟨k,_,by unfold ZmK;rw[List.getElem?_map,h1];rfl,h2,h4,h3⟩
theorem ZB8 {N:Nat} {L:List Zm} (h:InN N L):InN N (ZmK L):=λl hl=>by
 unfold ZmK at hl;obtain ⟨x,hx,rfl⟩:=List.mem_map.1 hl;exact ⟨(h x hx).2,(h x hx).1⟩
structure Scc (N:Nat) (L:List Zm) (lv:List Bool) (v:Int) (m:List Int):Prop where
 mem:∀ c,c∈m<->((0<=c/\c<(N:Int))/\Rch L lv (λa=>a=v) c/\Rch (ZmK L) lv (λa=>a=v) c)
 nod:m.Nodup
 len:m.length<=N
 more:1<m.length\/∃ (k:Nat) (l:Zm),L[k]?=some l/\lv[k]?=some true/\Zm.From l=v/\Zm.To l=v
 v0:0<=v/\v<(N:Int)
theorem ZwW (v:Int):∀ {m:List Int},m.Nodup->1<m.length->∃ a,a∈m/\a≠v
 | [],_,h=>by simp at h
 | [_],_,h=>by simp at h
 | a::b::r,hn,_=>by
  by_cases q:a=v
  ·refine ⟨b,by simp,λe=>?_⟩
   grind
  simp_all
theorem Scc.cell {N:Nat} {L:List Zm} {lv:List Bool} {v:Int} {m:List Int} (h:Scc N L lv v m) {D:Int->Prop} (hL:InN N L) (hD:∀ l∈L,Zm.Kind l=1\/(D (Zm.From l)/\¬D (Zm.To l))) :
  ∃ (k:Nat) (l:Zm),L[k]?=some l/\lv[k]?=some true/\Zm.Kind l=1/\Zm.From l∈m/\Zm.To l∈m:=by
 apply Classical.byContradiction;intro hno;have key:∀ (a c:Int),Live L lv a c->a∈m->c∈m->D a/\¬D c:=by
  rintro a c ⟨k,l,h1,h2,rfl,rfl⟩ ha hc;grind
 have inn:∀ {a c:Int},Live L lv a c->(0<=a/\a<(N:Int))/\(0<=c/\c<(N:Int)):=by
  rintro a c ⟨k,l,h1,h2,rfl,rfl⟩;exact hL l (List.mem_of_getElem? h1)
 have hv:v∈m:=(h.mem v).2 ⟨h.v0,.base rfl,.base rfl⟩;rcases h.more with hm | ⟨k,l,h1,h2,h3,h4⟩
 ·obtain ⟨a,ha,hav⟩:=ZwW v h.nod hm
  obtain ⟨_,ra,rb⟩:=(h.mem a).1 ha;have ra0:=ra;have rb0:=rb;cases ra with
  | base q=>exact hav q
  | @step c _ rc hl =>
   have hc:c∈m:=(h.mem c).2 ⟨(inn hl).1,rc,rb0.step (Zts hl)⟩;have k1:=key _ _ hl hc ha;cases rb with
   | base q=>exact hav q
   | @step c' _ rc' hl' =>
    have hl'':=ZvA hl';have hc':c'∈m:=(h.mem c').2 ⟨(inn hl'').2,ra0.step hl'',rc'⟩;grind
 grind
def Drv (b:Zd) (a:Int):Prop:=∃ p,(ZC (Zd.Design b))[(a / 2).toNat]?=some p/\p.2.2.2.1=true
theorem ZyN {b:Zd} (h:Xy b):∀ l∈Zl b,Zm.Kind l=1\/(Drv b (Zm.From l)/\¬Drv b (Zm.To l)):=by
 intro l hl;unfold Zl at hl;rcases List.mem_append.1 hl with hl | hl
 ·left
  obtain ⟨i,x,hi,hx⟩:=Qj.1 hl;unfold ZoL at hx;split at hx
  ·obtain ⟨k,a,ha,hla⟩:=Qj.1 hx
   unfold ZqL at hla;obtain ⟨p,hp,rfl⟩:=List.mem_map.1 hla;rfl
  ·cases hx
 ·right
  obtain ⟨v,w,hw,hx⟩:=Qj.1 hl;rw[Nat.zero_add] at hx;have hv:v<(Zf.Qw (Zd.Design b)).length:=by
   have:=(List.getElem?_eq_some_iff.1 hw).1;have:=h.ok.2.1;omega
  obtain ⟨q,y,hy,hyd,hq,_⟩:=Zxw h.ok.1 (Zne h.sm).2.1 hv;obtain ⟨j,s,hs,hls⟩:=Qj.1 hx;have hsk:=List.mem_of_getElem? hs;unfold ZaY at hsk;obtain ⟨k,x,hk,hsx⟩:=Qj.1 hsk;have hs2:s=(k:Int)/\¬x.2.2.2.1=true:=by
   unfold ZiV at hsx;grind
  have hdy:y.2.2.2.1=true:=by
   unfold Zxv at hyd;grind
  have two:∀ c:Int,c=0\/c=1->Drv b (2*Zjv (Zd.Design b) (v:Int)+c)/\¬Drv b (2*s+c):=λc hc=>by
   refine ⟨⟨y,?_,hdy⟩,λhd=>?_⟩
   ·rw[hq,show ((2*(q:Int)+c) / 2).toNat=q by omega]
    exact hy
   ·obtain ⟨p,hp,hpd⟩:=hd
    rw[hs2.1,show ((2*(k:Int)+c) / 2).toNat=k by omega,hk] at hp;grind
  simp only[List.mem_cons,List.not_mem_nil,or_false] at hls;rcases hls with rfl | rfl
  ·exact two 0 (.inl rfl)
  ·exact two 1 (.inr rfl)
def ct (l:List Bool):Nat:=l.countP (λb=>b)
theorem ZC8:∀ (l:List Bool) (i:Nat),l[i]?=some true->ct (l.set i false)+1=ct l
 | [],_,h=>by simp at h
 | b::l,0,h=>by simp at h;subst h;simp[ct]
 | b::l,i+1,h=>by
  have:=ZC8 l i (by simpa using h);unfold ct at this ⊢;grind
end Go.Proofs.YtpkjbcbepmpddaaGreatDoor
