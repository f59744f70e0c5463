/-
  Plain laws: nodes behind wiring, designs connected back; an edit's state, told the other way round.
-/
import Derived.Test.YtnnbgbgapogckaaGreatDoorLB
import Derived.Test.YtnnbgbgapogckaaGreatDoorLA
import Derived.Test.YtnnbgbgapogckaaGreatDoorM
import Derived.Test.YtnnbgbgapogckaaGreatDoorSxBr
namespace Go.Proofs.YtnnbgbgapogckaaGreatDoor
set_option linter.unusedVariables false
set_option linter.unusedSimpArgs false
open Go Go.Sx
theorem Zu7 {lib:ZaF} {d:Zp} {ws:List QH} {nd:Nat→Int} {k:Nat} {p:Pl} (hp:(places d)[k]?=some p) (h2:p.2.2.2.1=false) (h0:0≤p.2.2.1) (h1:p.2.2.1<(ws.length:Int)) :
  Zpz ((lib,d,wired (places d) ws nd,()):Zv) k=nd k:=by
 have hw:=List.getElem?_eq_getElem (show p.2.2.1.toNat<ws.length by omega)
 generalize ws[p.2.2.1.toNat]=w at hw
 have hn:=ZuF hp rfl h2
 have e:(wired (places d) ws nd)[p.2.2.1.toNat]?=some (Zrx w ((cat (Zg9 p.2.2.1) 0 (places d)).map (fun k=>nd k.toNat))):=by
  rw [ZpT,hw,Int.toNat_of_nonneg h0];rfl
 have e1:(places (Zv.Design ((lib,d,wired (places d) ws nd,()):Zv)))[k]?=some p:=hp
 have e2:(Zv.ZlA ((lib,d,wired (places d) ws nd,()):Zv))[p.2.2.1.toNat]?=some (Zrx w ((cat (Zg9 p.2.2.1) 0 (places d)).map (fun k=>nd k.toNat))):=e
 have e3:(((cat (Zg9 p.2.2.1) 0 (places d)).map (fun k=>nd k.toNat))[nth (places d) p.2.2.1 k]?).getD 0=nd k:=by
  rw [List.getElem?_map,hn];rfl
 unfold Zpz
 simp only [e1,h2,e2]
 exact e3
theorem ZxJ (pl pl':List Pl) (ws:List QH) (nd nd':Nat→Int):wired pl (wired pl' ws nd') nd=wired pl ws nd:=by
 apply List.ext_getElem?
 intro v
 rw [ZpT,ZpT,ZpT]
 cases ws[v]? with
 | none=>rfl
 | some w=>rfl
theorem Zzh (pl:List Pl) (ws:List QH) (nd:Nat→Int) (m:Nat):(wired pl ws nd).take m=wired pl (ws.take m) nd:=by
 apply List.ext_getElem?
 intro v
 rw [ZpT,List.getElem?_take,List.getElem?_take]
 split
 ·exact ZpT ..
 ·rfl
theorem ZxI {b:Zv} (h:ZqJ b):wired (places (Zv.Design b)) (Zv.ZlA b) (Zpz b)=Zv.ZlA b:=by
 have hwn:=h.ok.2.1
 apply List.ext_getElem?
 intro v
 rw [ZpT]
 cases hw:(Zv.ZlA b)[v]? with
 | none=>rfl
 | some w =>
  have hv:=(List.getElem?_eq_some_iff.1 hw).1
  obtain ⟨w',hw1,hw2,hw3⟩:=ZtN h (n:=(v:Int)) ⟨by omega,by omega⟩
  rw [Int.toNat_natCast,hw] at hw1
  injection hw1 with hw1
  subst hw1
  have hs:=hw3.2.2.2.1
  have:((cat (Zg9 (v:Int)) 0 (places (Zv.Design b))).map (fun k=>Zpz b k.toNat))=QH.ZnH w:=by
   apply List.ext_getElem?
   intro i
   rw [List.getElem?_map]
   cases hx:(cat (Zg9 (v:Int)) 0 (places (Zv.Design b)))[i]? with
   | none =>
    have h1:=List.getElem?_eq_none_iff.1 hx
    have h2:(sinks (Zv.Design b) (v:Int)).length=(cat (Zg9 (v:Int)) 0 (places (Zv.Design b))).length:=rfl
    rw [List.getElem?_eq_none (by omega)]
    rfl
   | some x =>
    obtain ⟨k,p,hp,ex,hn,h2,hnth⟩:=Zv2 hx
    obtain ⟨w',a1,a2,a3,_⟩:=Zx4 h hp h2
    rw [hn,Int.toNat_natCast,hw] at a2
    injection a2 with a2
    subst a2
    rw [hn,hnth,VU] at a3
    rw [ex,Option.map_some,Int.toNat_natCast,a3]
  rw [Option.map_some,this]
  rfl
theorem ZvQ {d:Zp} {a b n:Int} (h:¬a<0) {x:Zz} (hx:(Zp.Instances d)[a.toNat]?=some x):conn d a b n=((Zp.Instances d).set a.toNat (ZrQ x b.toNat n),Zp.Zbh d,Zp.Vk d,()):=by
 unfold conn
 rw [if_neg h,hx]
theorem Zvg {d:Zp} {a b n:Int} (h:a<0) {q:Zah} (hq:(Zp.Vk d)[b.toNat]?=some q):conn d a b n=(Zp.Instances d,Zp.Zbh d,(Zp.Vk d).set b.toNat (setPort q n),()):=by
 unfold conn
 rw [if_pos h,hq]
theorem Zyo {α:Type} {l:List α} {i:Nat} {x y:α} (hx:l[i]?=some x):(l.set i y)[i]?=some y:=by
 rw [List.getElem?_set,if_pos rfl,if_pos (List.getElem?_eq_some_iff.1 hx).1]
theorem Zv7 {d:Zp} {k:Nat} {p:Pl} (hp:(places d)[k]?=some p) (m n:Int):conn (conn d p.1 p.2.1 m) p.1 p.2.1 n=conn d p.1 p.2.1 n:=by
 rcases Zqo hp with ⟨i,j,x,nn,hx,hn,e,rfl⟩ | ⟨j,q,hq,e,rfl⟩
 ·have h:¬((ZrW i x j nn).1<0):=by simp only [ZrW];omega
  have hx':(Zp.Instances d)[(ZrW i x j nn).1.toNat]?=some x:=by simp only [ZrW,Int.toNat_natCast];exact hx
  rw [ZvQ (n:=m) h hx',ZvQ (n:=n) h hx']
  rw [ZvQ h (x:=ZrQ x (ZrW i x j nn).2.1.toNat m) (Zyo hx')]
  show (List.set (List.set (Zp.Instances d) _ _) _ _,_)=_
  rw [List.set_set]
  have:ZrQ (ZrQ x (ZrW i x j nn).2.1.toNat m) (ZrW i x j nn).2.1.toNat n=ZrQ x (ZrW i x j nn).2.1.toNat n:=by
   show (_,_,List.set (List.set _ _ _) _ _,_)=_
   rw [List.set_set]
   rfl
  rw [this]
 ·have h:(((-1:Int),(j:Int),Zah.Net q,decide (Zah.Dir q=1),()):Pl).1<0:=by show (-1:Int)<0;omega
  have hq':(Zp.Vk d)[(j:Int).toNat]?=some q:=by rw [Int.toNat_natCast];exact hq
  show conn (conn d (-1) (j:Int) m) (-1) (j:Int) n=conn d (-1) (j:Int) n
  rw [Zvg (n:=m) (by omega) hq',Zvg (n:=n) (by omega) hq']
  rw [Zvg (by omega) (q:=setPort q m) (Zyo hq')]
  show (_,_,List.set (List.set _ _ _) _ _,_)=_
  rw [List.set_set]
  rfl
theorem ZvR {d:Zp} {k:Nat} {p:Pl} (hp:(places d)[k]?=some p):conn d p.1 p.2.1 p.2.2.1=d:=by
 rcases Zqo hp with ⟨i,j,x,nn,hx,hn,e,rfl⟩ | ⟨j,q,hq,e,rfl⟩
 ·show conn d (i:Int) (j:Int) nn=d
  rw [ZvQ (by omega) (x:=x) (by rw [Int.toNat_natCast];exact hx)]
  have:ZrQ x (j:Int).toNat nn=x:=by
   unfold ZrQ
   rw [Int.toNat_natCast,Zc0 hn]
  rw [this,Int.toNat_natCast,Zc0 hx]
 ·show conn d (-1) (j:Int) (Zah.Net q)=d
  rw [Zvg (by omega) (q:=q) (by rw [Int.toNat_natCast];exact hq),Int.toNat_natCast,show setPort q (Zah.Net q)=q from rfl,Zc0 hq]
theorem Zxe (d:Zp) (x:Zz) (s:List UInt8):Zpx (addInst d x s)=d:=by
 unfold Zpx addInst
 show (List.take _ (Zp.Instances d++[x]),List.take _ (Zp.Zbh d++[s]),Zp.Vk d,())=d
 rw [show (Zp.Instances ((Zp.Instances d++[x],Zp.Zbh d++[s],Zp.Vk d,()):Zp)).length-1=(Zp.Instances d).length from by show (Zp.Instances d++[x]).length-1=_;rw [List.length_append,List.length_singleton];omega,
  show (Zp.Zbh ((Zp.Instances d++[x],Zp.Zbh d++[s],Zp.Vk d,()):Zp)).length-1=(Zp.Zbh d).length from by show (Zp.Zbh d++[s]).length-1=_;rw [List.length_append,List.length_singleton];omega,
  List.take_left,List.take_left]
theorem ZzW {pl:List Pl} {net:Int} {k:Nat} {p:Pl} (hp:pl[k]?=some p) (h1:p.2.2.1=net) (h2:p.2.2.2.1=false)
  (hu:∀ (k':Nat) (p':Pl),pl[k']?=some p'→p'.2.2.1=net→p'.2.2.2.1=false→k'=k):cat (Zg9 net) 0 pl=[(k:Int)]:=by
 have h3:=ZuF hp h1 h2
 have all:∀ i x,(cat (Zg9 net) 0 pl)[i]?=some x→i=nth pl net k∧x=(k:Int):=by
  intro i x hx
  obtain ⟨k',p',a,b,c,d,e⟩:=Zv2 hx
  have:=hu k' p' a c d
  subst this
  exact ⟨e.symm,b⟩
 have hl:=(List.getElem?_eq_some_iff.1 h3).1
 generalize cat (Zg9 net) 0 pl=l at h3 all hl
 match l,hl,all with
 | [v],_,all=>rw [(all 0 v rfl).2]
 | v::w::r,_,all =>
  have a0:=(all 0 v rfl).1
  have a1:=(all 1 w rfl).1
  omega
def ZAa (a b:QG):Prop:=QG.Kind a=QG.Kind b∧(QG.ZoY a).length=(QG.ZoY b).length∧Zna (QG.ZoY a) (fun k x=>∀ y,(QG.ZoY b)[k]?=some y→(ZhU.Clock x == ZhU.Clock y)=true)
theorem Zyh {a b:QG} (ha:sm Zin a):Zp3 a b=some true↔ZAa a b:=by
 have s1:(QG.ZoY a).length≤1048576:=by have:=(Zy2 ha).pins.1;omega
 unfold Zp3 ZAa
 by_cases k:QG.Kind a=QG.Kind b
 ·rw [if_pos k]
  by_cases hl:((QG.ZoY a).length:Int)=((QG.ZoY b).length:Int)
  ·rw [if_pos hl,Zrc (l:=QG.ZoY a) (show Len _ by unfold Len;omega) (fun k x=>∀ y,(QG.ZoY b)[k]?=some y→(ZhU.Clock x == ZhU.Clock y)=true) (bad:=false) (good:=true)
    (step:=fun v=>Zp5 a b v.1)
    (fun k x hx hk _=>by
     have hy:(QG.ZoY b)[k]?=some (QG.ZoY b)[k]:=List.getElem?_eq_getElem (by omega)
     simp only [Zp5,show (k:Int)<((QG.ZoY a).length:Int) from by omega,if_true,VU,hx,hy,Bq,Option.some.injEq,forall_eq']
     constructor
     ·intro hh;rw [if_pos hh]
     ·intro hh;rw [if_neg hh])
    (fun _=>by simp only [Zp5,Int.lt_irrefl,if_false])]
   have hl':(QG.ZoY a).length=(QG.ZoY b).length:=by omega
   constructor
   ·intro h
    injection h with h
    refine ⟨k,hl',?_⟩
    by_cases q:Zna (QG.ZoY a) (fun k x=>∀ y,(QG.ZoY b)[k]?=some y→(ZhU.Clock x == ZhU.Clock y)=true)
    ·exact q
    ·rw [Zl6 q] at h;cases h
   ·rintro ⟨_,_,h⟩
    rw [ZjL h]
  ·rw [if_neg hl]
   exact ⟨fun h=>(by cases h),fun h=>absurd (by omega) hl⟩
 ·rw [if_neg k]
  exact ⟨fun h=>(by cases h),fun h=>absurd h.1 k⟩
theorem Zy6 {a b:QG} (ha:sm Zin a) (hb:sm Zin b) (h:Zp3 a b=some true):Zp3 b a=some true:=by
 obtain ⟨h1,h2,h3⟩:=(Zyh ha).1 h
 refine (Zyh hb).2 ⟨h1.symm,h2.symm,fun k y hy x hx=>?_⟩
 have:=h3 k x hx y hy
 simp only [beq_iff_eq] at this ⊢
 exact this.symm
theorem Zzo {b:Zv} (h:ZqJ b) (hL:Zuz b):Zs3 b=some true:=by
 obtain ⟨x,c,w,m,hn,hx,hc,hk1,hk2,hl2,hm,hl,hne,hnm,hw,hs1,hs2,hp1,hc0⟩:=hL
 have hD:=h.ok.1
 have hf:=hD.few
 have h14:=hf.insts
 have h30:=hD.2.1.2.1
 have hwn:=h.ok.2.1
 obtain ⟨⟨c0,c1⟩,_,hnet⟩:=hD.2.2.1 x (List.mem_of_getElem? hx)
 have hx2:atI (Zp.Instances (Zv.Design b)) (((Zp.Instances (Zv.Design b)).length:Int)-1)=some x:=Zkf (by omega) (by rw [←hx];congr 1;omega)
 have hc2:atI (ZaF.Cells (Zv.Library b)) (Zz.Cell x)=some c:=Zkf c0 hc
 have eW:Wq (((Zv.ZlA b).length:Int)-1)=((Zp.Zbh (Zv.Design b)).length:Int)-1:=by rw [XD (by omega) (by omega)];omega
 have hbuf:Zqw c=some true:=by
  unfold Zqw
  rw [if_pos hk1,hk2]
  rfl
 have hs2':((sinks (Zv.Design b) (((Zp.Zbh (Zv.Design b)).length:Int)-1)).length:Int)=1:=by omega
 have hp1':((QH.Parent w).length:Int)=1:=by omega
 unfold Zs3
 rw [XD (n:=((Zp.Instances (Zv.Design b)).length:Int)-1) (by omega) (by omega),if_neg (by omega),hx2]
 simp only [Bq,hc2,hbuf,if_true,eW,hl,hnm,hm,hw,if_neg hne,ZcT _ _ hf,hs2',Zuu,hp1',hc0,decide_true]
theorem ZzZ {b:Zv} {e:Zbk} (h:ZtQ b e) (he:sm Zn2 e):Zst b e=some true:=by
 have hB:=h.blk
 have hD:=hB.ok.1
 have hf:=hD.few
 have hsd:=(Zrd hB.sm).2.1
 obtain ⟨he1,he2⟩:=ZvB he
 unfold Zst
 rw [JF _ hf,Bq]
 by_cases k1:Zbk.Kind e=1
 ·obtain ⟨p,x,c,c2,hp,h0,hd,hx,hc,hc2,ha⟩:=h.poss.1 k1
  rw [if_pos k1,hp.at]
  simp only [Bq,show Zk.instance p=p.1 from rfl,show Zk.drives p=p.2.2.2.1 from rfl,if_pos h0,if_pos hd,hx,hc,hc2,ha]
 rw [if_neg k1]
 by_cases k2:Zbk.Kind e=2
 ·obtain ⟨p,c,hp,hd,hc,hk,hpins,hname,hni,hnn⟩:=h.poss.2.1 k2
  have hlN:(Zbk.Name e).length≤4611686018427387904:=by have:((Zbk.Name e).length:Int)≤1048576:=he1;omega
  have hbuf:Zqw c=some true:=by
   unfold Zqw
   rw [if_pos hk,hpins]
   rfl
  rw [if_pos k2,hp.at]
  simp only [Bq,show Zk.drives p=p.2.2.2.1 from rfl,hd,hc,hbuf,ZdJ _ hlN,hname,(Zu4 _ (Zbk.Name e) hsd).2,(ZvJ _ (Zbk.Name e) hsd).2,if_true,if_pos hni,decide_eq_true hnn,Bool.false_eq_true,if_false]
 rw [if_neg k2]
 by_cases k3:Zbk.Kind e=3
 ·rw [if_pos k3,Zzo hB (h.poss.2.2.1 k3)]
  rfl
 rw [if_neg k3]
 by_cases k4:Zbk.Kind e=4
 ·obtain ⟨p,hp,hd,hne⟩:=h.poss.2.2.2.1 k4
  rw [if_pos k4,hp.at]
  simp only [Bq,show Zk.drives p=p.2.2.2.1 from rfl,show Zk.net p=p.2.2.1 from rfl,hd,Bool.false_eq_true,if_false,decide_eq_false hne,Bool.not_false]
 rw [if_neg k4]
 have k5:Zbk.Kind e=5:=by have:=h.blank;unfold Blank at this;omega
 obtain ⟨w,hw1,hw2,hw3⟩:=ZtN hB (h.range.2.2 k5)
 rw [ZcT _ _ hf]
 simp only [Bq,Zuw _ _ he2]
 rw [ZcF (h.poss.2.2.2.2 k5)]
theorem ZzR {b:Zv} {e:Zbk} (h:ZtQ b e) (he:sm Zn2 e):ZsA e b=some 0∧Zqu b e=some 0:=by
 have hB:=h.blk
 have hwn:=hB.ok.2.1
 have h2:Zqu b e=some 0:=by
  unfold Zqu
  rw [Zrz b hB.sm,Bq,if_pos (ZcF hB.ok),ZuW e he,Bq,if_pos (ZcF h.blank),ZuX hB e he,Bq,if_pos (ZcF h.range),ZzZ h he,Bq,if_pos rfl]
  by_cases k2:Zbk.Kind e=2
  ·have:=h.lim k2
   rw [if_pos k2,if_neg (by omega),if_neg (by omega)]
  ·rw [if_neg k2]
 obtain ⟨c,h3,h4,_⟩:=ZwJ hB e he
 rw [h4] at h2
 injection h2 with h2
 subst h2
 exact ⟨h3,h4⟩
/-
  Plain laws: an edit undone.
-/
theorem ZzG {b:Zv} (h:ZqJ b) {k:Nat} {p:Pl} (hp:(places (Zv.Design b))[k]?=some p) (n v:Int) :
  moved (moved b k p n v) k (p.1,p.2.1,n,p.2.2.2.1,()) p.2.2.1 (Zpz b k)=b:=by
 have hwn:=h.ok.2.1
 have e1:mvD (moved b k p n v) (p.1,p.2.1,n,p.2.2.2.1,()) p.2.2.1=Zv.Design b:=(Zv7 hp n p.2.2.1).trans (ZvR hp)
 have e2:wired (places (Zv.Design b)) (Zv.ZlA b) (mvN (moved b k p n v) k (Zpz b k))=Zv.ZlA b:=by
  refine (ZvL (nd':=Zpz b) fun j q hq hd=>?_).trans (ZxI h)
  unfold mvN
  by_cases c:j=k
  ·rw [if_pos c,c]
  ·rw [if_neg c]
   have hq2:(places (mvD b p n))[j]?=some q:=by
    show (places (conn _ _ _ _))[j]?=_
    rw [ZpN hp,List.getElem?_set_ne (Ne.symm c)];exact hq
   have hqn:=Zp0 h.ok.1 (List.mem_of_getElem? hq)
   have:=Zu7 (lib:=Zv.Library b) (ws:=Zv.ZlA b) (nd:=mvN b k v) hq2 hd hqn.1 (by have:=hqn.2;omega)
   refine this.trans ?_
   unfold mvN;rw [if_neg c]
 show ((Zv.Library b,mvD (moved b k p n v) (p.1,p.2.1,n,p.2.2.2.1,()) p.2.2.1,wired (places (mvD (moved b k p n v) (p.1,p.2.1,n,p.2.2.2.1,()) p.2.2.1)) (wired (places (mvD b p n)) (Zv.ZlA b) (mvN b k v)) (mvN (moved b k p n v) k (Zpz b k)),()):Zv)=b
 rw [e1,ZxJ,e2]
theorem Zyj {b:Zv} (h:ZqJ b) {e:Zbk} {k:Nat} {p:Pl} (hp:(places (Zv.Design b))[k]?=some p) :
  places (ZtC b e p)=(places (addInst (Zv.Design b) (Zum b e p) (Zbk.Name e))).set (ZvE b k) (p.1,p.2.1,((Zp.Zbh (Zv.Design b)).length:Int),p.2.2.2.1,()):=by
 rw [Zt6 hp]
 exact ZpN (Zt2 h hp) _
theorem Zzn {b:Zv} {e:Zbk} {q:Pl} {j:Nat} {r:Pl} (hj:(places (addInst (Zv.Design b) (Zum b e q) (Zbk.Name e)))[j]?=some r) :
  (j<Zpg (Zv.Design b)∧(places (Zv.Design b))[j]?=some r)∨(j=Zpg (Zv.Design b)∧r.2.2.1=q.2.2.1)∨(j=Zpg (Zv.Design b)+1∧r.2.2.2.1=true)∨(Zpg (Zv.Design b)+2≤j∧(places (Zv.Design b))[j-2]?=some r):=by
 by_cases c1:j<Zpg (Zv.Design b)
 ·rw [ZwH c1] at hj
  exact .inl ⟨c1,hj⟩
 by_cases c2:j=Zpg (Zv.Design b)
 ·have:=add_mid (d:=Zv.Design b) (x:=Zum b e q) (s:=Zbk.Name e) (j:=0) (by show 0<2;omega)
  rw [Nat.add_zero,←c2,hj] at this
  have h3:=Zsj (i:=(Zp.Instances (Zv.Design b)).length) (x:=Zum b e q) (j:=0) (n:=q.2.2.1) rfl
  rw [←this] at h3
  injection h3 with h3
  exact .inr (.inl ⟨c2,by rw [h3];rfl⟩)
 by_cases c3:j=Zpg (Zv.Design b)+1
 ·have:=add_mid (d:=Zv.Design b) (x:=Zum b e q) (s:=Zbk.Name e) (j:=1) (by show 1<2;omega)
  rw [←c3,hj] at this
  have h3:=Zsj (i:=(Zp.Instances (Zv.Design b)).length) (x:=Zum b e q) (j:=1) (n:=((Zp.Zbh (Zv.Design b)).length:Int)) rfl
  rw [←this] at h3
  injection h3 with h3
  refine .inr (.inr (.inl ⟨c3,?_⟩))
  rw [h3]
  show decide ((1:Int)=Wq ((2:Int)-1))=true
  rw [XD (by omega) (by omega)]
  rfl
 ·have:=ZvO (d:=Zv.Design b) (x:=Zum b e q) (s:=Zbk.Name e) (k:=j-2) (by omega)
  rw [show (Zz.Zbh (Zum b e q)).length=2 from rfl,show j-2+2=j by omega,hj] at this
  exact .inr (.inr (.inr ⟨by omega,this.symm⟩))
theorem Zxa (b:Zv) (e:Zbk) (p:Pl):(Zp.Zbh (ZtC b e p)).length=(Zp.Zbh (Zv.Design b)).length+1:=by
 show (Zp.Zbh (conn (Zv.Design b) p.1 p.2.1 _)++[Zbk.Name e]).length=_
 rw [List.length_append,ZpO]
 rfl
theorem ZyN {b:Zv} {e:Zbk} (h:ZtQ b e) (k2:Zbk.Kind e=2) {p:Pl} (hp:ZrD b e p) (hd:p.2.2.2.1=false) :
  Zuz (buffered b e (Zbk.Place e).toNat p)∧sinks (ZtC b e p) ((Zp.Zbh (Zv.Design b)).length:Int)=[((ZvE b (Zbk.Place e).toNat:Nat):Int)]∧
  (places (ZtC b e p))[ZvE b (Zbk.Place e).toNat]?=some (p.1,p.2.1,((Zp.Zbh (Zv.Design b)).length:Int),p.2.2.2.1,()):=by
 have hB:=h.blk
 have hwn:=hB.ok.2.1
 obtain ⟨p',c,hp',_,hc,hk,hpins,hname,hni,hnn⟩:=h.poss.2.1 k2
 obtain ⟨_,hcr⟩:=h.range.1 (.inr k2)
 have hc2:(ZaF.Cells (Zv.Library b))[(Zbk.Cell e).toNat]?=some c:=by
  have:=hc
  unfold atI at this
  rw [if_pos hcr.1] at this
  exact this
 have hpk:=Zt2 (e:=e) (q:=p) hB hp.2
 have hpl:=Zyj (e:=e) hB hp.2
 have hpk2:(places (ZtC b e p))[ZvE b (Zbk.Place e).toNat]?=some (p.1,p.2.1,((Zp.Zbh (Zv.Design b)).length:Int),p.2.2.2.1,()):=by rw [hpl];exact Zyo hpk
 have hold:∀ (j:Nat) (q:Pl),(places (Zv.Design b))[j]?=some q→q.2.2.1≠((Zp.Zbh (Zv.Design b)).length:Int):=fun j q hq=>by
  have:=(Zp0 hB.ok.1 (List.mem_of_getElem? hq)).2
  omega
 have hsk:sinks (ZtC b e p) ((Zp.Zbh (Zv.Design b)).length:Int)=[((ZvE b (Zbk.Place e).toNat:Nat):Int)]:=by
  refine ZzW hpk2 rfl hd (fun j q hq hn h2=>?_)
  by_cases c:j=ZvE b (Zbk.Place e).toNat
  ·exact c
  exfalso
  rw [hpl,List.getElem?_set_ne (Ne.symm c)] at hq
  rcases Zzn hq with ⟨_,a⟩ | ⟨_,a⟩ | ⟨_,a⟩ | ⟨_,a⟩
  ·exact hold _ _ a hn
  ·exact hold _ _ hp.2 (a.symm.trans hn)
  ·rw [h2] at a;cases a
  ·exact hold _ _ a hn
 have hNl:=Zxa b e p
 have hNe:((Zp.Zbh (ZtC b e p)).length:Int)-1=((Zp.Zbh (Zv.Design b)).length:Int):=by omega
 refine ⟨⟨Zum b e p,c,Zrx ZxK ((cat (Zg9 (((Zp.Zbh (Zv.Design b)).length:Nat):Int)) 0 (places (ZtC b e p))).map fun k=>Zyy b (Zbk.Place e).toNat k.toNat),p.2.2.1,?_,?_,hc2,hk,hpins,rfl,rfl,?_,?_,?_,?_,?_,?_,rfl,rfl⟩,hsk,hpk2⟩
 ·show 0<(Zp.Instances (conn (Zv.Design b) p.1 p.2.1 _)++[_]).length
  rw [List.length_append,List.length_singleton];omega
 ·show (Zp.Instances (conn (Zv.Design b) p.1 p.2.1 _)++[Zum b e p])[(Zp.Instances (conn (Zv.Design b) p.1 p.2.1 _)++[Zum b e p]).length-1]?=some _
  rw [List.length_append,List.length_singleton,Nat.add_sub_cancel]
  simp
 ·show some (((Zp.Zbh (Zv.Design b)).length:Nat):Int)=some (((Zp.Zbh (ZtC b e p)).length:Int)-1)
  rw [hNe]
 ·show p.2.2.1≠((Zp.Zbh (ZtC b e p)).length:Int)-1
  rw [hNe]
  exact hold _ _ hp.2
 ·show atI (Zp.Zbh (conn (Zv.Design b) p.1 p.2.1 _)++[Zbk.Name e]) (((Zp.Zbh (ZtC b e p)).length:Int)-1)=some (Zbk.Name e)
  rw [hNe,VU,ZpO]
  simp
 ·show atI (wired (places (ZtC b e p)) (Zv.ZlA b++[ZxK]) _) (((Zp.Zbh (ZtC b e p)).length:Int)-1)=some _
  rw [hNe,VU,ZpT]
  have:(Zv.ZlA b++[ZxK])[(Zp.Zbh (Zv.Design b)).length]?=some ZxK:=by rw [←hwn];simp
  rw [this]
  rfl
 ·show (List.map _ _).length=1
  rw [List.length_map]
  exact congrArg List.length hsk
 ·show (sinks (ZtC b e p) (((Zp.Zbh (ZtC b e p)).length:Int)-1)).length=1
  rw [hNe,hsk]
  rfl
theorem Zzt (d:Zp) (x:Zz) (s:List UInt8):Zpg (addInst d x s)=Zpg d+(Zz.Zbh x).length:=by
 show (cat ZeJ 0 (Zp.Instances d++[x])).length=_
 rw [ZeE,List.length_append]
 simp only [cat,List.append_nil,Zp1]
theorem ZyK {b:Zv} {e:Zbk} (h:ZtQ b e) (k2:Zbk.Kind e=2) (hs:sm .str (Zbk.Name e)) {p:Pl} (hp:ZrD b e p) (hd:p.2.2.2.1=false) :
  ZpS (buffered b e (Zbk.Place e).toNat p) (ZvE b (Zbk.Place e).toNat) (p.1,p.2.1,((Zp.Zbh (Zv.Design b)).length:Int),p.2.2.2.1,()) p.2.2.1=b:=by
 have hB:=h.blk
 have hwn:=hB.ok.2.1
 have hR:=Zt7 h k2 hs hp
 have hpl:=Zyj (e:=e) hB hp.2
 obtain ⟨hL,hsk,hpk⟩:=ZyN h k2 hp hd
 generalize ek:(Zbk.Place e).toNat=k at *
 have hpk0:(places (Zv.Design b))[k]?=some p:=by rw [←ek];exact hp.2
 have e1:unD (buffered b e k p) (p.1,p.2.1,((Zp.Zbh (Zv.Design b)).length:Int),p.2.2.2.1,()) p.2.2.1=Zv.Design b:=by
  have:conn (ZtC b e p) p.1 p.2.1 p.2.2.1=addInst (Zv.Design b) (Zum b e p) (Zbk.Name e):=by
   show conn (addInst (conn (Zv.Design b) p.1 p.2.1 _) (Zum b e p) (Zbk.Name e)) p.1 p.2.1 p.2.2.1=_
   rw [Zx0 (by rw [ZpC];exact Zx6 hpk0 (.inr trivial)),Zv7 hpk0,ZvR hpk0]
  show Zpx (conn (ZtC b e p) p.1 p.2.1 p.2.2.1)=_
  rw [this,Zxe]
 have e2:(Zv.ZlA (buffered b e k p)).take ((Zv.ZlA (buffered b e k p)).length-1)=wired (places (ZtC b e p)) (Zv.ZlA b) (Zyy b k):=by
  show (wired (places (ZtC b e p)) (Zv.ZlA b++[ZxK]) (Zyy b k)).take ((wired (places (ZtC b e p)) (Zv.ZlA b++[ZxK]) (Zyy b k)).length-1)=_
  rw [ZtH,Zzh,List.length_append,List.length_singleton,Nat.add_sub_cancel,List.take_left]
 have hI:Zpg (Zv.Design (buffered b e k p))-2=Zpg (Zv.Design b):=by
  have h1:=Zzt (conn (Zv.Design b) p.1 p.2.1 ((Zp.Zbh (Zv.Design b)).length:Int)) (Zum b e p) (Zbk.Name e)
  rw [Zt3 hpk0] at h1
  show Zpg (ZtC b e p)-2=_
  have h2:Zpg (ZtC b e p)=Zpg (Zv.Design b)+2:=h1
  omega
 have hnode:∀ (i:Nat) (q:Pl),(places (ZtC b e p))[i]?=some q→q.2.2.2.1=false→Zpz (buffered b e k p) i=Zyy b k i:=fun i q hq h2=>by
  have hqn:=Zp0 hR.ok.1 (x:=q) (List.mem_of_getElem? hq)
  have h3:q.2.2.1≤((Zp.Zbh (ZtC b e p)).length:Int)-1:=hqn.2
  have h4:=Zxa b e p
  exact Zu7 (lib:=Zv.Library b) (ws:=Zv.ZlA b++[ZxK]) (nd:=Zyy b k) hq h2 hqn.1 (by rw [List.length_append,List.length_singleton];omega)
 have hK:ZvE b k=if k<Zpg (Zv.Design b) then k else k+2:=rfl
 have hold:∀ (i:Nat) (q:Pl),(places (addInst (Zv.Design b) (Zum b e p) (Zbk.Name e)))[i]?=some q→i≠ZvE b k→(places (ZtC b e p))[i]?=some q:=fun i q hq hne=>by
  rw [hpl,List.getElem?_set_ne (Ne.symm hne)];exact hq
 have hpin:Zpz (buffered b e k p) (Zpg (Zv.Design b))=Zpz b k:=by
  have hne:Zpg (Zv.Design b)≠ZvE b k:=by rw [hK];split<;>omega
  have h3:=Zsj (i:=(Zp.Instances (Zv.Design b)).length) (x:=Zum b e p) (j:=0) (n:=p.2.2.1) rfl
  have h4:=add_mid (d:=Zv.Design b) (x:=Zum b e p) (s:=Zbk.Name e) (j:=0) (by show 0<2;omega)
  rw [h3,Nat.add_zero] at h4
  rw [hnode _ _ (hold _ _ h4 hne) (by
   show decide ((0:Int)=Wq ((2:Int)-1))=false
   rw [XD (by omega) (by omega)];rfl)]
  unfold Zyy Zxs
  rw [if_neg hne,if_neg (by omega),if_pos rfl]
 have e3:wired (places (Zv.Design b)) (Zv.ZlA b) (unN (buffered b e k p) (ZvE b k))=Zv.ZlA b:=by
  refine (ZvL (nd':=Zpz b) fun j q hq h2=>?_).trans (ZxI hB)
  unfold unN Zxt mvN
  rw [hI,hpin]
  by_cases c1:j<Zpg (Zv.Design b)
  ·rw [if_pos c1]
   by_cases c2:j=ZvE b k
   ·rw [if_pos c2]
    rw [hK] at c2
    split at c2
    ·rw [c2]
    ·omega
   ·rw [if_neg c2,hnode _ _ (hold j q (by rw [ZwH c1];exact hq) c2) h2]
    unfold Zyy Zxs
    rw [if_neg c2,if_pos c1]
  ·rw [if_neg c1]
   by_cases c2:j+2=ZvE b k
   ·rw [if_pos c2]
    rw [hK] at c2
    split at c2
    ·omega
    ·rw [show j=k by omega]
   ·have h5:=ZvO (d:=Zv.Design b) (x:=Zum b e p) (s:=Zbk.Name e) (k:=j) (by omega)
    rw [show (Zz.Zbh (Zum b e p)).length=2 from rfl,hq] at h5
    rw [if_neg c2,hnode _ _ (hold (j+2) q h5 c2) h2]
    unfold Zyy Zxs
    rw [if_neg c2,if_neg (by omega),if_neg (by omega),if_neg (by omega),Nat.add_sub_cancel]
 show ((Zv.Library b,unD (buffered b e k p) _ _,wired (places (unD (buffered b e k p) _ _)) ((Zv.ZlA (buffered b e k p)).take ((Zv.ZlA (buffered b e k p)).length-1)) (unN (buffered b e k p) (ZvE b k)),()):Zv)=b
 rw [e1,e2,ZxJ,e3]
/-
  Plain laws: a buffer taken away, put in again; every edit is undone by its inverse.
-/
theorem Zzp {d:Zp} {x:Zz} {s:List UInt8} (hn:0<(Zp.Instances d).length) (hx:(Zp.Instances d)[(Zp.Instances d).length-1]?=some x) (hs:(Zp.Zbh d)[(Zp.Zbh d).length-1]?=some s):addInst (Zpx d) x s=d:=by
 have h1:=Zxd hn hx
 have h0:=(List.getElem?_eq_some_iff.1 hs).1
 have h2:(Zp.Zbh d).take ((Zp.Zbh d).length-1)++[s]=Zp.Zbh d:=by
  have:=JI hs
  rw [show (Zp.Zbh d).length-1+1=(Zp.Zbh d).length by omega,List.take_length] at this
  exact this.symm
 show (Zp.Instances (Zpx d)++[x],(Zp.Zbh d).take ((Zp.Zbh d).length-1)++[s],Zp.Vk d,())=d
 rw [h2,←h1]
theorem Zz6 {l:List Int} {a b:Int} (h:l.length=2) (h0:atI l 0=some a) (h1:atI l 1=some b):l=[a,b]:=by
 match l,h with
 | [u,v],_ =>
  injection (show some u=some a from h0) with h0
  injection (show some v=some b from h1) with h1
  rw [h0,h1]
theorem Zzg (pl pl':List Pl) (A:List QH) (c:QH) (nd nd':Nat→Int):wired pl (wired pl' A nd'++[c]) nd=wired pl (A++[c]) nd:=by
 apply List.ext_getElem?
 intro v
 rw [ZpT,ZpT,List.getElem?_append,List.getElem?_append,ZtH]
 split
 ·rw [ZpT]
  cases A[v]? with
  | none=>rfl
  | some w=>rfl
 ·rfl
theorem Zzm {w:QH} {s:Int} (h:ZrY w s) (h1:(QH.Parent w).length=1) (h2:atI (QH.Cap w) 0=some 0) (l:List Int):Zrx ZxK l=Zrx w l:=by
 obtain ⟨_,a2,a3,_,a5,_⟩:=h
 rw [h1] at a2 a3
 have hP:QH.Parent w=[-1]∧QH.Res w=[0]:=by
  match hp:QH.Parent w,h1 with
  | [u],_ =>
   obtain ⟨q1,q2⟩:=(a5 0 u (by rw [hp];rfl)).1 rfl
   match hr:QH.Res w,a2 with
   | [v],_ =>
    rw [hr] at q2
    injection q2 with q2
    rw [q1,q2]
    exact ⟨rfl,rfl⟩
 have hC:QH.Cap w=[0]:=by
  match hc:QH.Cap w,a3 with
  | [u],_ =>
   rw [hc] at h2
   injection (show some u=some 0 from h2) with h2
   rw [h2]
 unfold Zrx
 rw [hP.1,hP.2,hC]
def unK (k:Nat) (p:Pl):Nat:=if p.1<0 then k-2 else k
theorem Zyb {b:Zv} (h:ZqJ b) (hL:Zuz b) {k:Nat} {p:Pl} {m:Int} {x:Zz} (hs:sinks (Zv.Design b) (((Zp.Zbh (Zv.Design b)).length:Int)-1)=[(k:Int)]) (hp:(places (Zv.Design b))[k]?=some p)
  (hpi:p.1≠((Zp.Instances (Zv.Design b)).length:Int)-1) (hx:(Zp.Instances (Zv.Design b))[(Zp.Instances (Zv.Design b)).length-1]?=some x) (hm:atI (Zz.Zbh x) 0=some m)
  (hR:ZqJ (ZpS b k p m)) {f:Zbk} (he1:Zbk.Cell f=Zz.Cell x) (he2:Zbk.Name f=Zz.Name x) :
  (places (unD b p m))[unK k p]?=some (p.1,p.2.1,m,p.2.2.2.1,())∧p.2.2.2.1=false∧buffered (ZpS b k p m) f (unK k p) (p.1,p.2.1,m,p.2.2.2.1,())=b:=by
 have hwn:=h.ok.2.1
 obtain ⟨k',p',hs',hp',hpn,hpd,_⟩:=hL.sink h
 have ek:k=k':=by rw [hs] at hs';injection hs' with hs' _;omega
 subst ek
 rw [hp] at hp'
 injection hp' with hp'
 subst hp'
 obtain ⟨x',c,w,m',hn,hx',hc,hk1,hk2,hl2,hm',hl,hne,hnm,hw,hs1,hs2,hp1,hc0⟩:=hL
 rw [hx] at hx'
 injection hx' with hx'
 subst hx'
 have em:m'=m:=by rw [hm] at hm';injection hm' with hm';exact hm'.symm
 subst em
 have hxn:=Zz6 hl2 hm hl
 obtain ⟨_,_,hnet⟩:=h.ok.1.2.2.1 x (List.mem_of_getElem? hx)
 have hmn:=hnet m' (by rw [hxn];exact List.mem_cons_self ..)
 have hpos:1≤(Zp.Zbh (Zv.Design b)).length:=by have:=hmn.1;have:=hmn.2;omega
 have tN:Int.toNat (((Zp.Zbh (Zv.Design b)).length:Int)-1)=(Zp.Zbh (Zv.Design b)).length-1:=by omega
 have hN1:(Zp.Zbh (Zv.Design b))[(Zp.Zbh (Zv.Design b)).length-1]?=some (Zz.Name x):=by
  unfold atI at hnm
  rw [if_pos (by omega),tN] at hnm
  exact hnm
 have hw1:(Zv.ZlA b)[(Zv.ZlA b).length-1]?=some w:=by
  unfold atI at hw
  rw [if_pos (by omega),tN] at hw
  rw [hwn];exact hw
 have hwhole:=Zzp hn hx hN1
 obtain ⟨hk2',hpu⟩:=ZyZ (m:=m') hn hx hl2 hp hpi
 have hpl0:(places (Zpx (Zv.Design b)))[unK k p]?=some p:=by
  have:=(ZyZ (m:=p.2.2.1) hn hx hl2 hp hpi).2
  unfold unD at this
  rw [ZvR hp] at this
  exact this
 have hlt:=Zx6 hpl0 (.inr trivial)
 have hun:unD b p m'=conn (Zpx (Zv.Design b)) p.1 p.2.1 m':=by
  have:conn (Zv.Design b) p.1 p.2.1 m'=addInst (conn (Zpx (Zv.Design b)) p.1 p.2.1 m') x (Zz.Name x) :=
   (congrArg (fun z=>conn z p.1 p.2.1 m') hwhole).symm.trans (Zx0 hlt)
  unfold unD
  rw [this,Zxe]
 have hnr:(Zp.Zbh (unD b p m')).length=(Zp.Zbh (Zv.Design b)).length-1:=by
  rw [hun,ZpO]
  show (List.take _ _).length=_
  rw [List.length_take];omega
 have hnr2:((Zp.Zbh (unD b p m')).length:Int)=p.2.2.1:=by rw [hpn];omega
 have hbi:Zum (ZpS b k p m') f (p.1,p.2.1,m',p.2.2.2.1,())=x:=by
  show (Zbk.Name f,Zbk.Cell f,[m',((Zp.Zbh (unD b p m')).length:Int)],())=x
  rw [he1,he2,hnr2,hpn,←hxn]
 have e1:ZtC (ZpS b k p m') f (p.1,p.2.1,m',p.2.2.2.1,())=Zv.Design b:=by
  show addInst (conn (unD b p m') p.1 p.2.1 ((Zp.Zbh (unD b p m')).length:Int)) (Zum (ZpS b k p m') f (p.1,p.2.1,m',p.2.2.2.1,())) (Zbk.Name f)=_
  rw [hbi,hnr2,hun,Zv7 hpl0,ZvR hpl0,he2,hwhole]
 have hI:=Zuf hn hx hl2
 have hIr:Zpg (unD b p m')=Zpg (Zpx (Zv.Design b)):=by rw [hun,Zt3 hpl0]
 have hpp:=Zzd hpl0
 have h2l:=ZsZ (Zpx (Zv.Design b))
 have hside:(p.1<0→Zpg (Zpx (Zv.Design b))≤unK k p∧unK k p+2=k)∧(¬p.1<0→unK k p<Zpg (Zpx (Zv.Design b))∧unK k p=k):=by
  constructor
  ·intro q
   have h3:=hpp.1.1 q
   have h4:=hk2' q
   have:unK k p=k-2:=if_pos q
   omega
  ·intro q
   have:unK k p=k:=if_neg q
   refine ⟨?_,this⟩
   rcases Nat.lt_or_ge (unK k p) (Zpg (Zpx (Zv.Design b))) with h3 | h3
   ·exact h3
   ·exact absurd (hpp.1.2 (by omega)) q
 have hK:ZvE (ZpS b k p m') (unK k p)=k:=by
  show (if unK k p<Zpg (unD b p m') then unK k p else unK k p+2)=k
  rw [hIr]
  by_cases q:p.1<0
  ·have:=hside.1 q;rw [if_neg (by omega)];exact this.2
  ·have:=hside.2 q;rw [if_pos (by omega)];exact this.2
 have hplr:places (unD b p m')=(places (Zpx (Zv.Design b))).set (unK k p) (p.1,p.2.1,m',p.2.2.2.1,()):=by rw [hun,ZpN hpl0]
 have hwl:(Zv.ZlA b).length=(Zp.Zbh (Zv.Design b)).length:=hwn
 have hnode:∀ (i:Nat) (q:Pl),(places (unD b p m'))[i]?=some q→q.2.2.2.1=false→Zpz (ZpS b k p m') i=unN b k i:=fun i q hq h2=>by
  have hqn:=Zp0 hR.ok.1 (x:=q) (List.mem_of_getElem? hq)
  have h3:q.2.2.1≤((Zp.Zbh (unD b p m')).length:Int)-1:=hqn.2
  exact Zu7 (lib:=Zv.Library b) (ws:=(Zv.ZlA b).take ((Zv.ZlA b).length-1)) (nd:=unN b k) hq h2 hqn.1 (by rw [List.length_take];omega)
 have hu:∀ i,unN b k i=if i<Zpg (Zpx (Zv.Design b)) then mvN b k (Zpz b (Zpg (Zpx (Zv.Design b)))) i else mvN b k (Zpz b (Zpg (Zpx (Zv.Design b)))) (i+2):=fun i=>by
  unfold unN Zxt
  rw [show Zpg (Zv.Design b)-2=Zpg (Zpx (Zv.Design b)) by omega]
 have hks:Zpz (ZpS b k p m') (unK k p)=Zpz b (Zpg (Zpx (Zv.Design b))):=by
  have hpu':(places (unD b p m'))[unK k p]?=some (p.1,p.2.1,m',p.2.2.2.1,()):=hpu
  rw [hnode _ _ hpu' hpd,hu]
  by_cases q:p.1<0
  ·have:=hside.1 q
   rw [if_neg (by omega),this.2]
   unfold mvN
   rw [if_pos rfl]
  ·have:=hside.2 q
   rw [if_pos this.1,this.2]
   unfold mvN
   rw [if_pos rfl]
 obtain ⟨w',a1,_,a3⟩:=ZtN h (n:=((Zp.Zbh (Zv.Design b)).length:Int)-1) ⟨by omega,by omega⟩
 have ew:w'=w:=by
  rw [tN,←hwn,hw1] at a1
  injection a1 with a1
  exact a1.symm
 subst ew
 have hk0:Zpz b k=0:=by
  have:=Zvh h k p w' hp hpd (by rw [hpn,tN,←hwn];exact hw1)
  rw [hp1] at this
  omega
 have hpd0:places (Zv.Design b)=places (addInst (Zpx (Zv.Design b)) x (Zz.Name x)):=congrArg places hwhole.symm
 have e2:wired (places (Zv.Design b)) (Zv.ZlA b) (Zyy (ZpS b k p m') (unK k p))=Zv.ZlA b:=by
  refine (ZvL (nd':=Zpz b) fun j q hq h2=>?_).trans (ZxI h)
  unfold Zyy Zxs
  rw [hK,hks,show Zpg (Zv.Design (ZpS b k p m'))=Zpg (Zpx (Zv.Design b)) from hIr]
  by_cases c0:j=k
  ·rw [if_pos c0,c0,hk0]
  rw [if_neg c0]
  rw [hpd0] at hq
  by_cases c1:j<Zpg (Zpx (Zv.Design b))
  ·rw [ZwH c1] at hq
   have c2:j≠unK k p:=by
    by_cases q:p.1<0
    ·have:=hside.1 q;omega
    ·have:=hside.2 q;omega
   rw [if_pos c1,hnode j q (by rw [hplr,List.getElem?_set_ne (Ne.symm c2)];exact hq) h2,hu,if_pos c1]
   unfold mvN
   rw [if_neg c0]
  rw [if_neg c1]
  by_cases c3:j=Zpg (Zpx (Zv.Design b))
  ·rw [if_pos c3,c3]
  rw [if_neg c3]
  by_cases c4:j=Zpg (Zpx (Zv.Design b))+1
  ·exfalso
   have h5:=add_mid (d:=Zpx (Zv.Design b)) (x:=x) (s:=Zz.Name x) (j:=1) (by rw [hl2];omega)
   have h6:=Zsj (i:=(Zp.Instances (Zpx (Zv.Design b))).length) (x:=x) (j:=1) (n:=((Zp.Zbh (Zv.Design b)).length:Int)-1) (by rw [hxn];rfl)
   rw [←c4,hq,h6] at h5
   injection h5 with h5
   rw [h5] at h2
   revert h2
   show ¬(decide ((1:Int)=Wq (((Zz.Zbh x).length:Int)-1))=false)
   rw [hl2,XD (by omega) (by omega)]
   simp
  ·have h5:=ZvO (d:=Zpx (Zv.Design b)) (x:=x) (s:=Zz.Name x) (k:=j-2) (by omega)
   rw [hl2,show j-2+2=j by omega,hq] at h5
   have c2:j-2≠unK k p:=by
    by_cases q:p.1<0
    ·have:=hside.1 q;omega
    ·have:=hside.2 q;omega
   rw [if_neg c4,hnode (j-2) q (by rw [hplr,List.getElem?_set_ne (Ne.symm c2)];exact h5.symm) h2,hu,if_neg (by omega),show j-2+2=j by omega]
   unfold mvN
   rw [if_neg c0]
 have hwt:(Zv.ZlA b).take ((Zv.ZlA b).length-1)++[w']=Zv.ZlA b:=by
  have:=JI hw1
  rw [show (Zv.ZlA b).length-1+1=(Zv.ZlA b).length by omega,List.take_length] at this
  exact this.symm
 refine ⟨hpu,hpd,?_⟩
 show ((Zv.Library b,ZtC (ZpS b k p m') f (p.1,p.2.1,m',p.2.2.2.1,()),wired (places (ZtC (ZpS b k p m') f (p.1,p.2.1,m',p.2.2.2.1,()))) (wired (places (unD b p m')) ((Zv.ZlA b).take ((Zv.ZlA b).length-1)) (unN b k)++[ZxK]) (Zyy (ZpS b k p m') (unK k p)),()):Zv)=b
 rw [e1,Zzg,ZxV _ _ _ (w':=w') (Zzm a3 hp1 hc0),hwt,e2]
theorem app1 {b:Zv} {e:Zbk} (hB:ZqJ b) (k1:Zbk.Kind e=1) {p:Pl} {x:Zz} (hp:ZrD b e p) (h0:0≤p.1) (hx:(Zp.Instances (Zv.Design b))[p.1.toNat]?=some x):Zpy e b=some (swapped b p.1 (Zbk.Cell e)):=by
 unfold Zpy
 rw [Zp4 _ hB.sm,Bq,if_pos k1,Zpj _ hB.ok.1.few,Bq,hp.at,Bq]
 simp only [show Zbl.instance p=p.1 from rfl,Zkf h0 hx,Bq]
 unfold swapped
 rw [hx]
theorem app2 {b:Zv} {e:Zbk} (h:ZtQ b e) (k2:Zbk.Kind e=2) (hs:sm .str (Zbk.Name e)) {p:Pl} (hp:ZrD b e p) (hd:p.2.2.2.1=false):Zpy e b=some (buffered b e (Zbk.Place e).toNat p):=by
 unfold Zpy
 rw [Zp4 _ h.blk.sm,Bq,if_neg (by omega),if_pos k2,Zvy h k2 hs hp hd]
 rfl
theorem app3 {b:Zv} {e:Zbk} (hB:ZqJ b) (hL:Zuz b) (k3:Zbk.Kind e=3):∃ (k:Nat) (p:Pl) (m:Int),sinks (Zv.Design b) (((Zp.Zbh (Zv.Design b)).length:Int)-1)=[(k:Int)]∧(places (Zv.Design b))[k]?=some p∧p.1≠((Zp.Instances (Zv.Design b)).length:Int)-1∧
  (∀ y,(Zp.Instances (Zv.Design b))[(Zp.Instances (Zv.Design b)).length-1]?=some y→atI (Zz.Zbh y) 0=some m)∧Zpy e b=some (ZpS b k p m):=by
 obtain ⟨k,p,m,v,hs,hp,hpi,hm,hv,hun⟩:=ZtJ hB hL
 obtain ⟨hn,x,hx,hl2⟩:=hL.two
 have hn2:0<(Zp.Instances (conn (Zv.Design b) p.1 p.2.1 m)).length:=by rw [ZpC];exact hn
 have hx4:(Zp.Instances (conn (Zv.Design b) p.1 p.2.1 m))[(Zp.Instances (conn (Zv.Design b) p.1 p.2.1 m)).length-1]?=some ((Zp.Instances (conn (Zv.Design b) p.1 p.2.1 m))[(Zp.Instances (conn (Zv.Design b) p.1 p.2.1 m)).length-1]'(by omega)):=List.getElem?_eq_getElem _
 generalize (Zp.Instances (conn (Zv.Design b) p.1 p.2.1 m))[(Zp.Instances (conn (Zv.Design b) p.1 p.2.1 m)).length-1]'(by omega)=x' at hx4
 obtain ⟨y,hy,_,_,hyl,_⟩:=Zs5 hx4
 rw [ZpC,hx] at hy
 injection hy with hy
 have h5:=Zuf hn2 hx4 (by rw [hyl,←hy,hl2])
 have h6:=Zt3 hp m
 have hins:Zpg (unD b p m)=Zpg (Zv.Design b)-2:=by unfold unD;omega
 refine ⟨k,p,m,hs,hp,hpi,hm,?_⟩
 unfold Zpy
 rw [Zp4 _ hB.sm,Bq,if_neg (by omega),if_neg (by omega),if_pos k3,hun,hins,hv]
 rfl
theorem app4 {b:Zv} {e:Zbk} (hB:ZqJ b) (k4:Zbk.Kind e=4) {p:Pl} (hp:ZrD b e p) (hd:p.2.2.2.1=false) (hn:Zre (Zv.Design b) (Zbk.Net e)):Zpy e b=some (moved b (Zbk.Place e).toNat p (Zbk.Net e) (Zbk.Node e)):=by
 unfold Zpy
 rw [Zp4 _ hB.sm,Bq,if_neg (by omega),if_neg (by omega),if_neg (by omega),if_pos k4,Zr9 hB,Bq,Zpj _ hB.ok.1.few,Bq,hp.at,Bq,
  show (Zbl.instance p,Zbl.pin p,())=(p.1,p.2.1,()) from rfl,Zty hp.2,Bq]
 exact congrArg (fun o=>Option.bind o fun connect0=>some connect0) (ZwK hB hp.2 hd hn (v:=Zbk.Node e))
theorem ZAS {b:Zv} {e:Zbk} (hB:ZqJ b) (k5:Zbk.Kind e=5) (hn:Zre (Zv.Design b) (Zbk.Net e)) (hs:sm ZjY (Zbk.ZoZ e)):Zpy e b=some (Zy5 b (Zbk.Net e) (Zbk.ZoZ e)):=by
 obtain ⟨w,hw1,hw2,_⟩:=ZtN hB hn
 unfold Zpy
 rw [Zp4 _ hB.sm,Bq,if_neg (by omega),if_neg (by omega),if_neg (by omega),if_neg (by omega),if_pos k5,Zr2 _ hs,Bq,hw2,Bq]
 rfl
theorem Zxi {α:Type} {p:α→Bool} {l:List α} (h:∀ x∈l,p x=false):Zrm p l<0:=by
 rcases Int.lt_or_le (Zrm p l) 0 with h1 | h1
 ·exact h1
 ·obtain ⟨x,hx,hp⟩:=List.any_eq_true.1 (ZrE.1 h1)
  rw [h x hx] at hp
  cases hp
abbrev noW:QH:=(([]:List Int),([]:List Int),([]:List Int),([]:List Int),())
theorem ZyY:ZuZ noW:=⟨rfl,rfl,rfl,rfl⟩
theorem undo {b:Zv} {e:Zbk} (h:ZtQ b e) (he:sm Zn2 e):∃ (r:Zv) (f:Zbk),Zpy e b=some r∧ZpH e b=some f∧ZqJ r∧sm Zn2 f∧ZtQ r f∧Zpy f r=some b:=by
 have hB:=h.blk
 have hf:=hB.ok.1.few
 have hpl:=Zck hf
 have h14:=hf.insts
 have h30:=hB.ok.1.2.1.2.1
 have hwn:=hB.ok.2.1
 obtain ⟨b1,b2,b3⟩:=Zrd hB.sm
 by_cases k1:Zbk.Kind e=1
 ·obtain ⟨p,x,c,c2,hp,h0,hd,hx,hc,hc2,ha⟩:=h.poss.1 k1
  obtain ⟨hpr,hcr⟩:=h.range.1 (.inl k1)
  have hx2:(Zp.Instances (Zv.Design b))[p.1.toNat]?=some x:=by
   unfold atI at hx
   rw [if_pos h0] at hx
   exact hx
  obtain ⟨⟨hxc,hxc2⟩,_,_⟩:=hB.ok.1.2.2.1 x (List.mem_of_getElem? hx2)
  have hc3:(ZaF.Cells (Zv.Library b))[(Zz.Cell x).toNat]?=some c:=by
   unfold atI at hc
   rw [if_pos hxc] at hc
   exact hc
  have hc4:(ZaF.Cells (Zv.Library b))[(Zbk.Cell e).toNat]?=some c2:=by
   unfold atI at hc2
   rw [if_pos hcr.1] at hc2
   exact hc2
  have hsc:=ZqC (Zw1 b1) hc3
  have hsc2:=ZqC (Zw1 b1) hc4
  have hR:=ZxU hB h0 hx2 hc3 hc4 hcr (Zyi hsc hsc2 ha)
  have e0:swapped b p.1 (Zbk.Cell e)=(Zv.Library b,((Zp.Instances (Zv.Design b)).set p.1.toNat (Zz.Name x,Zbk.Cell e,Zz.Zbh x,()),Zp.Zbh (Zv.Design b),Zp.Vk (Zv.Design b),()),Zv.ZlA b,()):=by
   unfold swapped
   rw [hx2]
  have ha1:=app1 hB k1 hp h0 hx2
  have hinv:ZpH e b=some (1,Zbk.Place e,Zz.Cell x,0,0,[],noW,()):=by
   unfold ZpH
   rw [if_pos k1,Zpj _ hf,Bq,hp.at,Bq]
   simp only [show Zbl.instance p=p.1 from rfl,hx,Bq]
  rw [e0] at hR ha1
  generalize hr:((Zv.Library b,((Zp.Instances (Zv.Design b)).set p.1.toNat (Zz.Name x,Zbk.Cell e,Zz.Zbh x,()),Zp.Zbh (Zv.Design b),Zp.Vk (Zv.Design b),()),Zv.ZlA b,()):Zv)=r at hR ha1
  have hpr2:places (Zv.Design r)=places (Zv.Design b):=by rw [←hr];exact Zuy hx2 (Zbk.Cell e)
  have hxr:(Zp.Instances (Zv.Design r))[p.1.toNat]?=some (Zz.Name x,Zbk.Cell e,Zz.Zbh x,()):=by rw [←hr];exact Zyo hx2
  have hlr:Zv.Library r=Zv.Library b:=by rw [←hr]
  have hpf:ZrD r ((1,Zbk.Place e,Zz.Cell x,0,0,[],noW,()):Zbk) p:=⟨hp.1,by rw [hpr2];exact hp.2⟩
  have hC:ZtQ r (1,Zbk.Place e,Zz.Cell x,0,0,[],noW,()):=by
   refine ⟨hR,.inl ⟨rfl,rfl,rfl,rfl,ZyY⟩,⟨fun _=>⟨by rw [hpr2];exact hpr,by rw [hlr];exact ⟨hxc,hxc2⟩⟩,fun (k:(1:Int)=4)=>by omega,fun (k:(1:Int)=5)=>by omega⟩,
    ⟨fun _=>⟨p,(Zz.Name x,Zbk.Cell e,Zz.Zbh x,()),c2,c,hpf,h0,hd,Zkf h0 hxr,by rw [hlr];exact hc2,by rw [hlr];exact hc,Zy6 hsc hsc2 ha⟩,fun (k:(1:Int)=2)=>by omega,fun (k:(1:Int)=3)=>by omega,fun (k:(1:Int)=4)=>by omega,fun (k:(1:Int)=5)=>by omega⟩,fun (k:(1:Int)=2)=>by omega⟩
  refine ⟨r,_,ha1,hinv,hR,Zxy Zv4 Zvb,hC,?_⟩
  rw [app1 hR rfl hpf h0 hxr]
  unfold swapped
  rw [hxr]
  show some ((Zv.Library r,((Zp.Instances (Zv.Design r)).set p.1.toNat (Zz.Name x,Zz.Cell x,Zz.Zbh x,()),Zp.Zbh (Zv.Design r),Zp.Vk (Zv.Design r),()),Zv.ZlA r,()):Zv)=some b
  rw [←hr]
  show some ((Zv.Library b,(List.set (List.set (Zp.Instances (Zv.Design b)) p.1.toNat _) p.1.toNat x,Zp.Zbh (Zv.Design b),Zp.Vk (Zv.Design b),()),Zv.ZlA b,()):Zv)=some b
  rw [List.set_set,Zc0 hx2]
 by_cases k2:Zbk.Kind e=2
 ·obtain ⟨p,c,hp,hd,_⟩:=h.poss.2.1 k2
  have hs:=(ZvB he).1
  have hR:=Zt7 h k2 hs hp
  obtain ⟨hL,hsk,hpk⟩:=ZyN h k2 hp hd
  have hinv:ZpH e b=some (3,0,0,0,0,[],noW,()):=by
   unfold ZpH
   rw [if_neg k1,if_pos k2]
  refine ⟨_,_,app2 h k2 hs hp hd,hinv,hR,Zxy Zv4 Zvb,⟨hR,.inr (.inr (.inl ⟨rfl,rfl,rfl,rfl,rfl,rfl,ZyY⟩)),⟨fun (k:(3:Int)=1∨(3:Int)=2)=>by omega,fun (k:(3:Int)=4)=>by omega,fun (k:(3:Int)=5)=>by omega⟩,
   ⟨fun (k:(3:Int)=1)=>by omega,fun (k:(3:Int)=2)=>by omega,fun _=>hL,fun (k:(3:Int)=4)=>by omega,fun (k:(3:Int)=5)=>by omega⟩,fun (k:(3:Int)=2)=>by omega⟩,?_⟩
  obtain ⟨k',p',m',g1,g2,g3,g4,g5⟩:=app3 (e:=((3,0,0,0,0,[],noW,()):Zbk)) hR hL rfl
  rw [g5]
  have hNl:=Zxa b e p
  have hNe:((Zp.Zbh (ZtC b e p)).length:Int)-1=((Zp.Zbh (Zv.Design b)).length:Int):=by omega
  have g1':sinks (ZtC b e p) (((Zp.Zbh (ZtC b e p)).length:Int)-1)=[(k':Int)]:=g1
  rw [hNe,hsk] at g1'
  injection g1' with g1' _
  have ek:k'=ZvE b (Zbk.Place e).toNat:=by omega
  subst ek
  have g2':(places (ZtC b e p))[ZvE b (Zbk.Place e).toNat]?=some p':=g2
  rw [hpk] at g2'
  injection g2' with g2'
  subst g2'
  have g6:=g4 (Zum b e p) (by
   show (Zp.Instances (conn (Zv.Design b) p.1 p.2.1 _)++[Zum b e p])[(Zp.Instances (conn (Zv.Design b) p.1 p.2.1 _)++[Zum b e p]).length-1]?=some _
   rw [List.length_append,List.length_singleton,Nat.add_sub_cancel]
   simp)
  injection (show some p.2.2.1=some m' from g6) with g6
  subst g6
  rw [ZyK h k2 hs hp hd]
 by_cases k3:Zbk.Kind e=3
 ·have hL:=h.poss.2.2.1 k3
  obtain ⟨k,p,m,hs,hp,hpi,hm,ha3⟩:=app3 hB hL k3
  have hR:=ZuU hB hL hs hp hpi hm
  obtain ⟨hn,x,hx,hl2⟩:=hL.two
  have hsx:sm ZdO x:=ZqC (Zrk b2).1 hx
  have hmx:=hm x hx
  obtain ⟨hxc,⟨c',hxc',hcl⟩,hnet⟩:=hB.ok.1.2.2.1 x (List.mem_of_getElem? hx)
  have hx2:atI (Zp.Instances (Zv.Design b)) (((Zp.Instances (Zv.Design b)).length:Int)-1)=some x:=Zkf (by omega) (by rw [←hx];congr 1;omega)
  obtain ⟨hpu,hpd,hundo⟩:=Zyb hB hL hs hp hpi hx hmx hR (f:=((2,((unK k p:Nat):Int),Zz.Cell x,0,0,Zz.Name x,noW,()):Zbk)) rfl rfl
  have hinv:ZpH e b=some (2,((unK k p:Nat):Int),Zz.Cell x,0,0,Zz.Name x,noW,()):=by
   unfold ZpH
   rw [if_neg k1,if_neg k2,if_pos k3]
   obtain ⟨k',p',m',v',hs',hp',hpi',hm',_,hun⟩:=ZtJ hB hL
   have ek:k=k':=by rw [hs] at hs';injection hs' with hs' _;omega
   subst ek
   rw [hp] at hp'
   injection hp' with hp'
   subst hp'
   have em:m=m':=by
    have:=hm' x hx
    rw [hmx] at this
    injection this
   subst em
   have hpo:=Zxn (unD b p m) (hf.conn p.1 p.2.1 m).cut hpu
   rw [Zp4 _ hB.sm,Bq,hun,Bq,XD (n:=((Zp.Instances (Zv.Design b)).length:Int)-1) (by omega) (by omega),hx2,Bq]
   exact congrArg (fun o=>Option.bind o _) (show ZqP (Zv.Design ((Zv.Library b,unD b p m,wired (places (unD b p m)) ((Zv.ZlA b).take ((Zv.ZlA b).length-1)) (Zxt (fun j=>if j=k then v' else Zpz b j) (Zpg (unD b p m))),()):Zv)) p.1 p.2.1=some ((unK k p:Nat):Int) from hpo)
  have hpf:ZrD (ZpS b k p m) ((2,((unK k p:Nat):Int),Zz.Cell x,0,0,Zz.Name x,noW,()):Zbk) (p.1,p.2.1,m,p.2.2.2.1,()):=⟨by show (0:Int)≤((unK k p:Nat):Int);omega,hpu⟩
  have hpos:=hL
  obtain ⟨x',c,w,m',_,hx',hc,hk1,hk2,_,_,hl,_,hnm,hw,_,_,_,_⟩:=hpos
  rw [hx] at hx'
  injection hx' with hx'
  subst hx'
  have hpn1:1≤(Zp.Zbh (Zv.Design b)).length:=by
   have q:=hnet m (List.mem_of_getElem? (show (Zz.Zbh x)[0]?=some m from hmx))
   have:=q.1;have:=q.2;omega
  have tN:Int.toNat (((Zp.Zbh (Zv.Design b)).length:Int)-1)=(Zp.Zbh (Zv.Design b)).length-1:=by omega
  have hN1:(Zp.Zbh (Zv.Design b))[(Zp.Zbh (Zv.Design b)).length-1]?=some (Zz.Name x):=by
   unfold atI at hnm
   rw [if_pos (by omega),tN] at hnm
   exact hnm
  have hin:(ZpY (Zv.Design b))[(Zp.Instances (Zv.Design b)).length-1]?=some (Zz.Name x):=by
   show (List.map Zz.Name _)[_]?=_
   rw [List.getElem?_map,hx];rfl
  have hi1:=hB.ok.1.2.1.2.2.2.1 _ _ (List.getElem?_eq_some_iff.1 hin).1 hin
  have hi2:=hB.ok.1.2.1.2.2.2.2.1 _ _ (List.getElem?_eq_some_iff.1 hN1).1 hN1
  have hri:ZpY (unD b p m)=(ZpY (Zv.Design b)).take ((Zp.Instances (Zv.Design b)).length-1):=by
   have:=Zt9 (Zv.Design b) p.1 p.2.1 m
   show List.map Zz.Name ((Zp.Instances (conn (Zv.Design b) p.1 p.2.1 m)).take _)=_
   rw [List.map_take,ZpC]
   exact congrArg (fun l=>List.take ((Zp.Instances (Zv.Design b)).length-1) l) this
  have hrn:Zp.Zbh (unD b p m)=(Zp.Zbh (Zv.Design b)).take ((Zp.Zbh (Zv.Design b)).length-1):=by
   show (Zp.Zbh (conn (Zv.Design b) p.1 p.2.1 m)).take _=_
   rw [ZpO]
  have hrl:(Zp.Instances (unD b p m)).length=(Zp.Instances (Zv.Design b)).length-1:=by
   show ((Zp.Instances (conn (Zv.Design b) p.1 p.2.1 m)).take _).length=_
   rw [List.length_take,ZpC];omega
  have hC:ZtQ (ZpS b k p m) ((2,((unK k p:Nat):Int),Zz.Cell x,0,0,Zz.Name x,noW,()):Zbk):=by
   refine ⟨hR,.inr (.inl ⟨rfl,rfl,rfl,ZyY⟩),⟨fun _=>⟨⟨by show (0:Int)≤((unK k p:Nat):Int);omega,?_⟩,hxc⟩,fun (k:(2:Int)=4)=>by omega,fun (k:(2:Int)=5)=>by omega⟩,
    ⟨fun (k:(2:Int)=1)=>by omega,fun _=>⟨_,c,hpf,hpd,Zkf hxc.1 hc,hk1,hk2,hi1.1,?_,?_⟩,fun (k:(2:Int)=3)=>by omega,fun (k:(2:Int)=4)=>by omega,fun (k:(2:Int)=5)=>by omega⟩,fun _=>⟨?_,?_⟩⟩
   ·have:=(List.getElem?_eq_some_iff.1 hpu).1
    show ((unK k p:Nat):Int)≤((places (unD b p m)).length:Int)-1
    omega
   ·refine Zxi fun y hy=>?_
    have h1:Zz.Name y∈ZpY (unD b p m):=List.mem_map_of_mem hy
    rw [hri] at h1
    exact decide_eq_false fun q=>hi1.2 (by rw [←(show Zz.Name y=Zz.Name x from q)];exact h1)
   ·refine Zxi fun y hy=>?_
    have h1:y∈Zp.Zbh (unD b p m):=hy
    rw [hrn] at h1
    exact decide_eq_false fun q=>hi2.2 (by rw [(show Zz.Name x=y from q)];exact h1)
   ·show (Zp.Instances (unD b p m)).length≤13
    omega
   ·show (Zp.Zbh (unD b p m)).length≤29
    rw [hrn,List.length_take];omega
  have hsf:sm Zn2 ((2,((unK k p:Nat):Int),Zz.Cell x,0,0,Zz.Name x,noW,()):Zbk):=Zxy (ZuV hsx).1 Zvb
  refine ⟨_,_,ha3,hinv,hR,hsf,hC,?_⟩
  rw [app2 hC rfl (ZuV hsx).1 hpf hpd]
  exact congrArg some hundo
 by_cases k4:Zbk.Kind e=4
 ·obtain ⟨p,hp,hd,hne⟩:=h.poss.2.2.2.1 k4
  obtain ⟨hpr,hn,w,hw,hnode⟩:=h.range.2.1 k4
  have hR:=ZyU hB hp.2 hd hn (v:=Zbk.Node e) (fun w' hw'=>by rw [hw] at hw';injection hw' with hw';rw [←hw'];exact hnode)
  have hm:=ZuD (Zv.Design b) (Zpz b) (Zbk.Place e).toNat p hp.2 hd
  have hinv:ZpH e b=some (4,Zbk.Place e,0,p.2.2.1,Zpz b (Zbk.Place e).toNat,[],noW,()):=by
   unfold ZpH
   rw [if_neg k1,if_neg k2,if_neg k3,if_pos k4,Zpj _ hf,Bq,hp.at,Bq,Zr9 hB,Bq]
   rw [show Zjr Zmh (Ty.int IntKind.i64) (Zrw (places (Zv.Design b)) (Zpz b) (places (Zv.Design b)).length) (Zbl.instance p,Zbl.pin p,())=some (Zpz b (Zbk.Place e).toNat) from hm]
   rfl
  have hplr:places (mvD b p (Zbk.Net e))=(places (Zv.Design b)).set (Zbk.Place e).toNat (p.1,p.2.1,Zbk.Net e,p.2.2.2.1,()):=ZpN hp.2 _
  have hpf:ZrD (moved b (Zbk.Place e).toNat p (Zbk.Net e) (Zbk.Node e)) ((4,Zbk.Place e,0,p.2.2.1,Zpz b (Zbk.Place e).toNat,[],noW,()):Zbk) (p.1,p.2.1,Zbk.Net e,p.2.2.2.1,()):=⟨hp.1,by
   show (places (mvD b p (Zbk.Net e)))[(Zbk.Place e).toNat]?=_
   rw [hplr];exact Zyo hp.2⟩
  have hpn:=Zp0 hB.ok.1 hp.mem
  have hnR:Zre (mvD b p (Zbk.Net e)) p.2.2.1:=by
   unfold Zre mvD
   rw [ZpO];exact hpn
  obtain ⟨w0,hw0,_,_⟩:=ZtN hB hpn
  have hC:ZtQ (moved b (Zbk.Place e).toNat p (Zbk.Net e) (Zbk.Node e)) ((4,Zbk.Place e,0,p.2.2.1,Zpz b (Zbk.Place e).toNat,[],noW,()):Zbk):=by
   refine ⟨hR,.inr (.inr (.inr (.inl ⟨rfl,rfl,rfl,ZyY⟩))),⟨fun (k:(4:Int)=1∨(4:Int)=2)=>by omega,fun _=>⟨⟨hpr.1,?_⟩,hnR,Zrx w0 ((cat (Zg9 ((p.2.2.1.toNat:Nat):Int)) 0 (places (mvD b p (Zbk.Net e)))).map fun k=>mvN b (Zbk.Place e).toNat (Zbk.Node e) k.toNat),?_,Zvh hB _ p w0 hp.2 hd hw0⟩,fun (k:(4:Int)=5)=>by omega⟩,
    ⟨fun (k:(4:Int)=1)=>by omega,fun (k:(4:Int)=2)=>by omega,fun (k:(4:Int)=3)=>by omega,fun _=>⟨_,hpf,hd,fun q=>hne (show p.2.2.1=Zbk.Net e from Eq.symm q)⟩,fun (k:(4:Int)=5)=>by omega⟩,fun (k:(4:Int)=2)=>by omega⟩
   ·show Zbk.Place e≤((places (mvD b p (Zbk.Net e))).length:Int)-1
    rw [hplr,List.length_set];exact hpr.2
   ·show (wired (places (mvD b p (Zbk.Net e))) (Zv.ZlA b) (mvN b (Zbk.Place e).toNat (Zbk.Node e)))[p.2.2.1.toNat]?=_
    rw [ZpT,hw0]
    rfl
  refine ⟨_,_,app4 hB k4 hp hd hn,hinv,hR,Zxy Zv4 Zvb,hC,?_⟩
  rw [app4 hR rfl hpf hd hnR]
  exact congrArg some (ZzG hB hp.2 (Zbk.Net e) (Zbk.Node e))
 ·have k5:Zbk.Kind e=5:=by have:=h.blank;unfold Blank at this;omega
  have hn:=h.range.2.2 k5
  obtain ⟨w,hw1,hw2,hw3⟩:=ZtN hB hn
  have hsw:=(ZvB he).2
  have hsw0:sm ZjY w:=ZqC b3 hw1
  have hR:=Zyu hB hn (h.poss.2.2.2.2 k5) hsw
  have hinv:ZpH e b=some (5,0,0,Zbk.Net e,0,[],w,()):=by
   unfold ZpH
   rw [if_neg k1,if_neg k2,if_neg k3,if_neg k4,hw2,Bq,Zr2 _ hsw0]
   rfl
  have hC:ZtQ (Zy5 b (Zbk.Net e) (Zbk.ZoZ e)) ((5,0,0,Zbk.Net e,0,[],w,()):Zbk):=by
   refine ⟨hR,.inr (.inr (.inr (.inr ⟨rfl,rfl,rfl,rfl,rfl⟩))),⟨fun (k:(5:Int)=1∨(5:Int)=2)=>by omega,fun (k:(5:Int)=4)=>by omega,fun _=>hn⟩,
    ⟨fun (k:(5:Int)=1)=>by omega,fun (k:(5:Int)=2)=>by omega,fun (k:(5:Int)=3)=>by omega,fun (k:(5:Int)=4)=>by omega,fun _=>hw3⟩,fun (k:(5:Int)=2)=>by omega⟩
  refine ⟨_,_,ZAS hB k5 hn hsw,hinv,hR,Zxy Zv4 hsw0,hC,?_⟩
  rw [ZAS (e:=((5,0,0,Zbk.Net e,0,[],w,()):Zbk)) hR rfl hn hsw0]
  show some ((Zv.Library b,Zv.Design b,List.set (List.set (Zv.ZlA b) _ _) (Zbk.Net e).toNat w,()):Zv)=some b
  rw [List.set_set,Zc0 hw1]
/-
  Plain laws: what a draw yields: the source, its numbers.
-/
def Gets {α:Type} (o:Option α) (Q:α→Prop):Prop:=∃ a,o=some a∧Q a
theorem Gets.ret {α:Type} {a:α} {Q:α→Prop} (h:Q a):Gets (some a) Q:=⟨a,rfl,h⟩
theorem Gets.bind {α β:Type} {o:Option α} {P:α→Prop} {f:α→Option β} {Q:β→Prop} (h:Gets o P) (k:∀ a,P a→Gets (f a) Q):Gets (o.bind f) Q:=by
 obtain ⟨a,e,hp⟩:=h
 rw [e]
 exact k a hp
theorem Gets.guard {α:Type} {p:Prop} {o:Option α} {Q:α→Prop} (h:p) (k:Gets o Q):Gets (Zj p o) Q:=by rw [ZB h];exact k
theorem Gets.ite {α:Type} {p:Prop} [Decidable p] {a b:Option α} {Q:α→Prop} (h1:p→Gets a Q) (h2:¬p→Gets b Q):Gets (if p then a else b) Q:=by
 split
 ·exact h1 (by assumption)
 ·exact h2 (by assumption)
theorem Gets.at {α β:Type} {l:List α} {i:Int} {f:α→Option β} {Q:β→Prop} (h0:0≤i) (h1:i<(l.length:Int)) (k:∀ x,x∈l→l[i.toNat]?=some x→Gets (f x) Q):Gets ((atI l i).bind f) Q:=by
 obtain ⟨x,e,hx⟩:=Zbn h0 h1
 rw [e]
 exact k x (List.mem_of_getElem? hx) hx
theorem Gets.mono {α:Type} {o:Option α} {P Q:α→Prop} (h:Gets o P) (k:∀ a,P a→Q a):Gets o Q:=by
 obtain ⟨a,e,hp⟩:=h
 exact ⟨a,e,k a hp⟩
theorem Gets.of {α:Type} {o:Option α} {a:α} {Q:α→Prop} (e:o=some a) (h:Q a):Gets o Q:=⟨a,e,h⟩
def Rnd {τ ρ:Type} (I:τ→Prop) (μ:τ→Nat) (m:Nat) (Q:ρ→Prop):τ ⊕ ρ→Prop
 | .inl v=>I v∧μ v<m
 | .inr r=>Q r
theorem Gets.loop {τ ρ:Type} {step:τ→Option (τ ⊕ ρ)} (I:τ→Prop) (μ:τ→Nat) {Q:ρ→Prop} {v:τ} (h0:I v) (hs:∀ v,I v→Gets (step v) (Rnd I μ (μ v) Q)):Gets (ZA step v) Q:=by
 refine ZeX I μ Q h0 (fun v hI=>?_)
 obtain ⟨r,e,h⟩:=hs v hI
 cases r with
 | inl v'=>exact .inl ⟨v',e,h⟩
 | inr r=>exact .inr ⟨r,e,h⟩
structure Src (s:Za):Prop where
 code:∀ x∈Za.code s,0≤x∧x≤255
 len:(Za.code s).length≤4096
 at0:0≤Za.at s
 at1:Za.at s≤4096
 sd0:0≤Za.seed s
 sd1:Za.seed s<2147483647
def Bel (n k:Int):Prop:=0≤k∧(k<n∨k=0)
theorem Zf {s:Za} (hs:Src s) (n:Int):Gets (Zc s n) (fun r=>Bel n r.1∧Src r.2):=by
 obtain ⟨hc,hl,a0,a1,s0,s1⟩:=hs
 unfold Zc
 split
 ·exact .ret ⟨⟨Int.le_refl _,.inr rfl⟩,⟨hc,hl,a0,a1,s0,s1⟩⟩
 rename_i hn
 split
 ·rename_i hat
  refine .at a0 hat fun x hx _=>?_
  obtain ⟨b0,b1⟩:=hc x hx
  have e1:Wq (Za.at s+1)=Za.at s+1:=XD (by omega) (by omega)
  have e2:Wq x=x:=XD (by omega) (by omega)
  have e3:Wq (Za.seed s*48271)=Za.seed s*48271:=XD (by omega) (by omega)
  have e4:Wq (Za.seed s*48271+x)=Za.seed s*48271+x:=XD (by omega) (by omega)
  have e5:Wq (Za.seed s*48271+x+1)=Za.seed s*48271+x+1:=XD (by omega) (by omega)
  simp only [e2,e3,e4,e5,e1]
  split
  ·refine .guard (by omega) (.ret ⟨⟨Int.tmod_nonneg _ b0,.inl (Int.tmod_lt_of_pos _ (by omega))⟩,⟨hc,hl,?_,?_,s0,s1⟩⟩)
   ·show 0≤Za.at s+1;omega
   ·show Za.at s+1≤4096;omega
  ·have m0:=Int.tmod_nonneg (a:=Za.seed s*48271+x+1) 2147483647 (by omega)
   have m1:=Int.tmod_lt_of_pos (Za.seed s*48271+x+1) (show (0:Int)<2147483647 by omega)
   refine .guard (by omega) (.ret ⟨⟨Int.tmod_nonneg _ m0,.inl (Int.tmod_lt_of_pos _ (by omega))⟩,⟨hc,hl,?_,?_,m0,m1⟩⟩)
   ·show 0≤Za.at s+1;omega
   ·show Za.at s+1≤4096;omega
 ·have e3:Wq (Za.seed s*48271)=Za.seed s*48271:=XD (by omega) (by omega)
  have e4:Wq (Za.seed s*48271+11)=Za.seed s*48271+11:=XD (by omega) (by omega)
  simp only [e3,e4]
  have m0:=Int.tmod_nonneg (a:=Za.seed s*48271+11) 2147483647 (by omega)
  have m1:=Int.tmod_lt_of_pos (Za.seed s*48271+11) (show (0:Int)<2147483647 by omega)
  generalize (Za.seed s*48271+11).tmod 2147483647=q at m0 m1
  have d0:q.tdiv 7=q / 7:=Int.tdiv_eq_ediv_of_nonneg m0
  rw [d0,XD (n:=q / 7) (by omega) (by omega)]
  exact .guard (by omega) (.ret ⟨⟨Int.tmod_nonneg _ (by omega),.inl (Int.tmod_lt_of_pos _ (by omega))⟩,⟨hc,hl,a0,a1,m0,m1⟩⟩)
theorem Zjd {code:List Int} (hc:∀ x∈code,0≤x∧x≤255) (hl:code.length≤4096):Gets (Ve code) Src:=by
 unfold Ve
 refine Gets.loop (fun v=>0≤v.1∧v.1≤64∧0≤v.2.1∧v.2.1<2147483647) (fun v=>(64-v.1).toNat) ⟨Int.le_refl _,by show (0:Int)≤64;omega,by show (0:Int)≤12345;omega,by show (12345:Int)<2147483647;omega⟩ ?_
 rintro ⟨i,c,⟨⟩⟩ ⟨i0,i1,c0,c1⟩
 simp only at i0 i1 c0 c1
 have fin:Gets (some (.inr (code,(0:Int),c,()):(Int×Int×Unit) ⊕ Za)) (Rnd (fun v:Int×Int×Unit=>0≤v.1∧v.1≤64∧0≤v.2.1∧v.2.1<2147483647) (fun v=>(64-v.1).toNat) ((fun v:Int×Int×Unit=>(64-v.1).toNat) (i,c,())) Src) :=
  .ret (show Src (code,(0:Int),c,()) from ⟨hc,hl,Int.le_refl _,by show (0:Int)≤4096;omega,c0,c1⟩)
 show Gets (Xp code i c) _
 unfold Xp
 split
 ·rename_i hi
  split
  ·rename_i h64
   refine .at i0 hi fun x hx _=>?_
   obtain ⟨b0,b1⟩:=hc x hx
   have e1:Wq (i+1)=i+1:=XD (by omega) (by omega)
   have e2:Wq x=x:=XD (by omega) (by omega)
   have e3:Wq (c*31)=c*31:=XD (by omega) (by omega)
   have e4:Wq (c*31+x)=c*31+x:=XD (by omega) (by omega)
   simp only [e1,e2,e3,e4]
   refine .ret ⟨⟨?_,?_,Int.tmod_nonneg _ (by omega),Int.tmod_lt_of_pos _ (by omega)⟩,?_⟩
   ·show 0≤i+1;omega
   ·show i+1≤64;omega
   ·show (64-(i+1)).toNat<(64-i).toNat;omega
  ·exact fin
 ·exact fin
theorem ZcZ {n:Int} (h0:0≤n) (h1:n<100):Gets (XG n) (fun r=>r.length≤2):=by
 have one:∀ (k:Nat) (m:Int),0≤m→m<10→Yp (k+1) m=some (bytesOf [IntKind.wrap IntKind.u8 (Wq (48+m))]):=fun k m a b=>by
  show ZN (Yp k) m=_
  unfold ZN
  rw [if_neg (by omega),if_pos b]
 have hb:∀ x:Int,(bytesOf [x]).length=1:=fun x=>rfl
 unfold XG
 by_cases h:n<10
 ·refine .of (Zfz ⟨1,one 0 n h0 h⟩ (fun k r hr=>?_)) (by rw [hb];omega)
  cases k with
  | zero=>cases hr
  | succ k=>rw [one k n h0 h] at hr;injection hr with hr;exact hr.symm
 ·have hd:n.tdiv 10=n / 10:=Int.tdiv_eq_ediv_of_nonneg h0
  have two:∀ k:Nat,Yp (k+2) n=some (bytesOf [IntKind.wrap IntKind.u8 (Wq (48+n / 10))]++bytesOf [IntKind.wrap IntKind.u8 (Wq (48+n.tmod 10))]):=fun k=>by
   show ZN (Yp (k+1)) n=_
   unfold ZN
   rw [if_neg (by omega),if_neg h,hd,XD (n:=n / 10) (by omega) (by omega),one k (n / 10) (by omega) (by omega),Bq,ZB (by rw [hb,hb];omega)]
  refine .of (Zfz ⟨2,two 0⟩ (fun k r hr=>?_)) (by rw [List.length_append,hb,hb];omega)
  match k,hr with
  | 0,hr=>cases hr
  | 1,hr =>
   exfalso
   revert hr
   show ¬ZN (Yp 0) n=some r
   unfold ZN
   rw [if_neg (by omega),if_neg h]
   intro hr
   cases hr
  | k+2,hr=>rw [two k] at hr;injection hr with hr;exact hr.symm
theorem Yi {α:Type} {P:α→Prop} {l:List α} {x:α} (h:∀ y∈l,P y) (hx:P x):∀ y∈l++[x],P y:=by
 intro y hy
 rcases List.mem_append.1 hy with hy | hy
 ·exact h y hy
 ·rw [List.mem_singleton] at hy
  rw [hy];exact hx
theorem Ze7 {α:Type} {P:α→Prop} {l:List α} {x:α} {i:Nat} (h:∀ y∈l,P y) (hx:P x):∀ y∈l.set i x,P y:=by
 intro y hy
 rcases List.mem_or_eq_of_mem_set hy with hy | hy
 ·exact h y hy
 ·rw [hy];exact hx
theorem smI {l:List Int} (h:l.length≤1048576):sm (.sl (.int .i64)) l:=⟨by omega,fun _ _=>trivial⟩
theorem smS {s:List UInt8} (h:s.length≤1048576):sm .str s:=by show (s.length:Int)≤1048576;omega
theorem smL {t:Ty} {l:List t.den} (h:l.length≤1048576) (h2:∀ x∈l,sm t x):sm (.sl t) l:=⟨by omega,h2⟩
/-
  Plain laws: what the draws of tables, arcs, cells and libraries yield.
-/
theorem ZfT {s:Za} (hs:Src s) (st:Int):Gets (YU s st) (fun r=>(1≤r.1.length∧r.1.length≤3)∧Src r.2):=by
 unfold YU
 refine (Zf hs st).bind fun r0 ⟨_,h0⟩=>?_
 refine (Zf h0 3).bind fun r1 ⟨⟨a,b⟩,h1⟩=>?_
 have e:Wq (1+r1.1)=1+r1.1:=XD (by omega) (by omega)
 rw [e]
 refine Gets.loop (fun v=>0≤v.2.2.1∧(v.1.length:Int)+v.2.2.1=1+r1.1∧Src (v.2.2.2.1,v.2.2.2.2.1,v.2.2.2.2.2.1,())) (fun v=>v.2.2.1.toNat) ⟨by dsimp only;omega,by dsimp only [List.length_nil];omega,h1⟩ ?_
 rintro ⟨out,t,n,c0,c1,c2,⟨⟩⟩ ⟨i1,i2,i3⟩
 dsimp only at i1 i2 i3
 show Gets (Yv st out t n c0 c1 c2) _
 unfold Yv
 have hw:Wq (n-1)=n-1:=XD (by omega) (by omega)
 rw [hw]
 split
 ·refine .guard (by simp only [List.length_cons,List.length_nil];omega) ?_
  refine (Zf i3 st).bind fun r ⟨_,h2⟩=>?_
  refine .ret ⟨⟨by dsimp only;omega,by dsimp only;simp only [List.length_append,List.length_cons,List.length_nil];omega,h2⟩,by dsimp only;omega⟩
 ·exact .ret ⟨⟨by dsimp only;omega,by dsimp only;omega⟩,i3⟩
theorem Zl1 {a b:Nat} (ha:1≤a∧a≤3) (hb:1≤b∧b≤3):(b:Int)≤(a:Int)*(b:Int)∧(a:Int)*(b:Int)≤9:=by
 have:a=1∨a=2∨a=3:=by omega
 rcases this with rfl | rfl | rfl<;>omega
theorem ZeW {s:Za} (hs:Src s) (base:Int):Gets (Qy s base) (fun r=>sm ZdQ r.1∧Src r.2):=by
 unfold Qy
 refine (ZfT hs 60).bind fun r0 ⟨ha,h0⟩=>?_
 refine (ZfT h0 40).bind fun r1 ⟨hb,h1⟩=>?_
 obtain ⟨p1,p2⟩:=Zl1 ha hb
 refine Gets.loop (fun v=>0≤v.2.1∧v.2.1≤9∧(v.1.length:Int)=v.2.1∧Src (v.2.2.1,v.2.2.2.1,v.2.2.2.2.1,())) (fun v=>(9-v.2.1).toNat) ⟨by dsimp only;omega,by dsimp only;omega,by dsimp only [List.length_nil];omega,h1⟩ ?_
 rintro ⟨out,i,c0,c1,c2,⟨⟩⟩ ⟨i0,i1,i2,i3⟩
 dsimp only at i0 i1 i2 i3
 show Gets (Xq base r0 r1 out i c0 c1 c2) _
 unfold Xq
 have e0:Wq ((r0.1.length:Int)*(r1.1.length:Int))=(r0.1.length:Int)*(r1.1.length:Int):=XD (by omega) (by omega)
 have e1:Wq (i+1)=i+1:=XD (by omega) (by omega)
 have e2:Wq (i-1)=i-1:=XD (by omega) (by omega)
 have e3:Wq (i-(r1.1.length:Int))=i-(r1.1.length:Int):=XD (by omega) (by omega)
 rw [e0,e1,e2,e3]
 split
 ·rename_i hi
  have nx:∀ (x:Int) (t:Za),Src t→Gets (Zj ((List.length out+List.length [x])*(8:Nat)≤(140737488355328:Nat)) (some (.inl (out++[x],i+1,t.fst,t.snd.fst,t.snd.snd.fst,()):(List Int×Int×List Int×Int×Int×Unit) ⊕ (Jy×Za))))
    (Rnd (fun v:List Int×Int×List Int×Int×Int×Unit=>0≤v.2.1∧v.2.1≤9∧(v.1.length:Int)=v.2.1∧Src (v.2.2.1,v.2.2.2.1,v.2.2.2.2.1,())) (fun v=>(9-v.2.1).toNat) (9-i).toNat (fun r=>sm ZdQ r.1∧Src r.2)):=fun x t ht =>
   .guard (by simp only [List.length_cons,List.length_nil];omega) (.ret ⟨⟨by dsimp only;omega,by dsimp only;omega,by dsimp only;simp only [List.length_append,List.length_cons,List.length_nil];omega,ht⟩,by dsimp only;omega⟩)
  refine (Zf i3 10).bind fun r ⟨_,g0⟩=>?_
  refine .guard (by omega) ?_
  split
  ·rename_i hm
   have hne:i≠0:=by
    intro q
    rw [q,Int.zero_tmod] at hm
    omega
   refine .at (by omega) (by omega) fun x0 _ _=>?_
   refine (Zf g0 20).bind fun r2 ⟨_,g1⟩=>?_
   split
   ·refine .at (by omega) (by omega) fun x1 _ _=>?_
    refine (Zf g1 20).bind fun r3 ⟨_,g2⟩=>?_
    exact nx _ _ g2
   ·exact nx _ _ g1
  ·split
   ·refine .at (by omega) (by omega) fun x1 _ _=>?_
    refine (Zf g0 20).bind fun r3 ⟨_,g2⟩=>?_
    exact nx _ _ g2
   ·exact nx _ _ g0
 ·exact .ret ⟨⟨smI (by dsimp only;omega),smI (by dsimp only;omega),smI (by dsimp only;omega),trivial⟩,i3⟩
theorem Zbg {s:Za} (hs:Src s) (base:Int):Gets (Z7 s base) (fun r=>sm (.sl ZdQ) r.1∧Src r.2):=by
 unfold Z7
 refine (ZeW hs base).bind fun r0 ⟨a,h0⟩=>?_
 refine (ZeW h0 base).bind fun r1 ⟨b,h1⟩=>?_
 refine .ret ⟨smL (by dsimp only [List.length_cons,List.length_nil];omega) (fun x hx=>?_),h1⟩
 rcases List.mem_cons.1 hx with rfl | hx
 ·exact a
 ·rw [List.mem_singleton] at hx
  rw [hx];exact b
theorem Zbm {s:Za} (hs:Src s) (k f t se:Int):Gets (Yf s k f t se) (fun r=>sm Zmv r.1∧Src r.2):=by
 unfold Yf
 split
 ·refine (Zf hs 10).bind fun r0 ⟨_,h0⟩=>?_
  refine (Zbg h0 _).bind fun r1 ⟨a,h1⟩=>?_
  exact .ret ⟨⟨trivial,trivial,trivial,trivial,a,smL (by simp) (by simp),trivial⟩,h1⟩
 ·refine (Zf hs 20).bind fun r0 ⟨_,h0⟩=>?_
  refine (Zbg h0 _).bind fun r1 ⟨a,h1⟩=>?_
  refine (Zbg h1 _).bind fun r2 ⟨b,h2⟩=>?_
  exact .ret ⟨⟨trivial,trivial,trivial,trivial,a,b,trivial⟩,h2⟩
theorem JE {c:QG} {pin b:Int} (hu:(0:Int)≤IntKind.wrap IntKind.u64 pin) (hbit:Wq ((1:Int)*(2:Int) ^ Min.min (Int.toNat (IntKind.wrap IntKind.u64 pin)) (IntKind.bits IntKind.i64))=b) (hL:(QG.Truth c).length≤8) (b0:0≤b) (b1:b≤8)
  (hb:∀ i:Int,0≤i→i<((QG.Truth c).length:Int)→Go.bits Go.BinOp.and IntKind.i64 i b=0→i+b<((QG.Truth c).length:Int)):Gets (X5 c pin) (fun _=>True):=by
 unfold X5
 refine .guard hu ?_
 refine Gets.loop (fun v=>0≤v.2.2.1∧v.2.2.1≤8) (fun v=>(8-v.2.2.1).toNat) ⟨by dsimp only;omega,by dsimp only;omega⟩ ?_
 rintro ⟨ra,lo,i,⟨⟩⟩ ⟨i0,i1⟩
 dsimp only at i0 i1
 show Gets (Xb c pin ra lo i) _
 unfold Xb
 have e1:Wq (i+1)=i+1:=XD (by omega) (by omega)
 have e2:Wq (i+b)=i+b:=XD (by omega) (by omega)
 simp only [hbit,e1,e2]
 split
 ·rename_i hi
  have nx:∀ r l:Bool,Gets (some (.inl (r,l,i+1,()):(Bool×Bool×Int×Unit) ⊕ Int)) (Rnd (fun v:Bool×Bool×Int×Unit=>0≤v.2.2.1∧v.2.2.1≤8) (fun v=>(8-v.2.2.1).toNat) (8-i).toNat (fun _=>True)):=fun r l =>
   .ret ⟨⟨by dsimp only;omega,by dsimp only;omega⟩,by dsimp only;omega⟩
  split
  ·rename_i hz
   have hlt:=hb i i0 hi hz
   repeat' first
    | exact nx _ _
    | split
    | refine Gets.at (by omega) (by omega) fun _ _ _=>?_
  ·exact nx _ _
 ·repeat' first
   | exact Gets.ret (show Rnd _ _ _ (fun _=>True) (.inr _) from trivial)
   | split
theorem eight {i:Int} (h0:0≤i) (h1:i<8):i=0∨i=1∨i=2∨i=3∨i=4∨i=5∨i=6∨i=7:=by omega
theorem Zii {c:QG} {pin:Int} (h:((QG.Truth c).length=2∧pin=0)∨((QG.Truth c).length=4∧(pin=0∨pin=1))∨((QG.Truth c).length=8∧(pin=0∨pin=1∨pin=2))):Gets (X5 c pin) (fun _=>True):=by
 have k0:∀ L:Int,(L=2∨L=4∨L=8)→∀ i:Int,0≤i→i<L→Go.bits Go.BinOp.and IntKind.i64 i 1=0→i+1<L:=by
  intro L hL i h0 h1 hz
  rcases eight h0 (by omega) with rfl | rfl | rfl | rfl | rfl | rfl | rfl | rfl<;>first | omega | exact absurd hz (by decide)
 have k1:∀ L:Int,(L=4∨L=8)→∀ i:Int,0≤i→i<L→Go.bits Go.BinOp.and IntKind.i64 i 2=0→i+2<L:=by
  intro L hL i h0 h1 hz
  rcases eight h0 (by omega) with rfl | rfl | rfl | rfl | rfl | rfl | rfl | rfl<;>first | omega | exact absurd hz (by decide)
 have k2:∀ L:Int,L=8→∀ i:Int,0≤i→i<L→Go.bits Go.BinOp.and IntKind.i64 i 4=0→i+4<L:=by
  intro L hL i h0 h1 hz
  rcases eight h0 (by omega) with rfl | rfl | rfl | rfl | rfl | rfl | rfl | rfl<;>first | omega | exact absurd hz (by decide)
 rcases h with ⟨hl,rfl⟩ | ⟨hl,rfl | rfl⟩ | ⟨hl,rfl | rfl | rfl⟩
 ·exact JE (b:=1) (by decide) (by decide) (by omega) (by omega) (by omega) (k0 _ (by omega))
 ·exact JE (b:=1) (by decide) (by decide) (by omega) (by omega) (by omega) (k0 _ (by omega))
 ·exact JE (b:=2) (by decide) (by decide) (by omega) (by omega) (by omega) (k1 _ (by omega))
 ·exact JE (b:=1) (by decide) (by decide) (by omega) (by omega) (by omega) (k0 _ (by omega))
 ·exact JE (b:=2) (by decide) (by decide) (by omega) (by omega) (by omega) (k1 _ (by omega))
 ·exact JE (b:=4) (by decide) (by decide) (by omega) (by omega) (by omega) (k2 _ (by omega))
theorem Zar {s:Za} (hs:Src s) {nm:List UInt8} (hn:nm.length≤5) {tr:List Int} (ht:tr.length=2∨tr.length=4∨tr.length=8):Gets (Y3 s nm tr) (fun r=>sm Zin r.1∧Src r.2):=by
 unfold Y3
 refine (Zf hs 50).bind fun r0 ⟨_,h0⟩=>?_
 refine (Zf h0 80).bind fun r1 ⟨_,h1⟩=>?_
 refine Gets.loop (fun v=>((v.1.length=0∧v.2.1=1)∨(v.1.length=1∧v.2.1=2)∨(v.1.length=2∧v.2.1=4)∨(v.1.length=3∧v.2.1=8))∧v.2.1≤(tr.length:Int)∧(∀ x∈v.1,sm Zl9 x)∧Src (v.2.2.1,v.2.2.2.1,v.2.2.2.2.1,())) (fun v=>(8-v.2.1).toNat)
  ⟨.inl ⟨rfl,rfl⟩,by dsimp only;omega,fun x hx=>(by cases hx),h1⟩ ?_
 rintro ⟨pins,n,c0,c1,c2,⟨⟩⟩ ⟨i1,i2,i3,i4⟩
 dsimp only at i1 i2 i3 i4
 show Gets (Xt nm tr r0 r1 pins n c0 c1 c2) _
 unfold Xt
 split
 ·rename_i hlt
  refine .at (by omega) (by simp only [List.length_cons,List.length_nil];omega) fun x hx _=>?_
  have hx1:x.length≤1:=by
   simp only [List.mem_cons,List.not_mem_nil,or_false] at hx
   rcases hx with rfl | rfl | rfl | rfl<;>exact Nat.le_refl _
  refine (Zf i4 9).bind fun r ⟨_,h2⟩=>?_
  have e1:Wq (2*n)=2*n:=XD (by omega) (by omega)
  rw [e1]
  refine .guard (by simp only [List.length_cons,List.length_nil];omega) (.ret ⟨⟨?_,by dsimp only;omega,Yi i3 ⟨smS (by (try dsimp only);omega),trivial,trivial,trivial,trivial⟩,h2⟩,by dsimp only;omega⟩)
  dsimp only
  simp only [List.length_append,List.length_cons,List.length_nil]
  omega
 ·refine .guard (by simp only [List.length_cons,List.length_nil];omega) ?_
  refine Gets.loop (fun v=>0≤v.2.1∧v.2.1≤3∧(v.1.length:Int)≤v.2.1∧(∀ x∈v.1,sm Zmv x)∧Src (v.2.2.1,v.2.2.2.1,v.2.2.2.2.1,())) (fun v=>(3-v.2.1).toNat) ⟨by dsimp only;omega,by dsimp only;omega,by dsimp only [List.length_nil];omega,fun x hx=>(by cases hx),i4⟩ ?_
  rintro ⟨arcs,p,d0,d1,d2,⟨⟩⟩ ⟨j0,j1,j2,j3,j4⟩
  dsimp only at j0 j1 j2 j3 j4
  show Gets (Xr nm tr r0 r1 pins arcs p d0 d1 d2) _
  unfold Xr
  have e1:Wq (p+1)=p+1:=XD (by omega) (by omega)
  rw [e1]
  split
  ·rename_i hp
   refine (Zii (by
    show (tr.length=2∧p=0)∨(tr.length=4∧(p=0∨p=1))∨(tr.length=8∧(p=0∨p=1∨p=2))
    omega)).bind fun se _=>?_
   split
   ·exact .ret ⟨⟨by dsimp only;omega,by dsimp only;omega,by dsimp only;omega,j3,j4⟩,by dsimp only;omega⟩
   ·refine (Zbm j4 1 p _ se).bind fun r ⟨ha,h2⟩=>?_
    refine .guard (by simp only [List.length_cons,List.length_nil];omega) (.ret ⟨⟨by dsimp only;omega,by dsimp only;omega,?_,Yi j3 ha,h2⟩,by dsimp only;omega⟩)
    dsimp only
    simp only [List.length_append,List.length_cons,List.length_nil]
    omega
  ·refine .ret ⟨⟨smS (by (try dsimp only);omega),trivial,smL ?_ (Yi i3 ⟨smS (by dsimp only [List.length_cons,List.length_nil];omega),trivial,trivial,trivial,trivial⟩),smL (by (try dsimp only);omega) j3,smI (by (try dsimp only);omega),trivial,trivial,trivial⟩,j4⟩
   (try dsimp only)
   simp only [List.length_append,List.length_cons,List.length_nil]
   omega
theorem Zde {s:Za} (hs:Src s) {nm:List UInt8} (hn:nm.length≤5) (k e:Int):Gets (Yq s nm k e) (fun r=>sm Zin r.1∧Src r.2):=by
 have hp:∀ a b:Int,sm (.sl Zl9) [([(100:UInt8)],(1:Int),a,Bool.false,()),([(99:UInt8),(107:UInt8)],(1:Int),b,Bool.true,()),([(113:UInt8)],(2:Int),(0:Int),Bool.false,())]:=fun a b=>by
  refine smL (by (try dsimp only);simp only [List.length_cons,List.length_nil];omega) (fun x hx=>?_)
  simp only [List.mem_cons,List.not_mem_nil,or_false] at hx
  rcases hx with rfl | rfl | rfl<;>exact ⟨smS (by simp only [List.length_cons,List.length_nil];omega),trivial,trivial,trivial,trivial⟩
 unfold Yq
 refine (Zf hs 50).bind fun r0 ⟨_,h0⟩=>?_
 refine (Zf h0 80).bind fun r1 ⟨_,h1⟩=>?_
 refine (Zf h1 9).bind fun r2 ⟨_,h2⟩=>?_
 refine (Zf h2 9).bind fun r3 ⟨_,h3⟩=>?_
 refine (Zbm h3 e 1 2 0).bind fun a0 ⟨g0,h4⟩=>?_
 refine (Zbm h4 4 1 0 0).bind fun a1 ⟨g1,h5⟩=>?_
 refine (Zbm h5 5 1 0 0).bind fun a2 ⟨g2,h6⟩=>?_
 have h3a:∀ x∈[a0.1,a1.1,a2.1],sm Zmv x:=fun x hx=>by
  simp only [List.mem_cons,List.not_mem_nil,or_false] at hx
  rcases hx with rfl | rfl | rfl
  ·exact g0
  ·exact g1
  ·exact g2
 split
 ·refine (Zbm h6 1 0 2 1).bind fun a3 ⟨g3,h7⟩=>?_
  refine .guard (by simp only [List.length_cons,List.length_nil];omega) (.ret ⟨⟨smS (by (try dsimp only);omega),trivial,hp _ _,smL (by (try dsimp only);simp only [List.length_append,List.length_cons,List.length_nil];omega) (Yi h3a g3),smI (by simp),trivial,trivial,trivial⟩,h7⟩)
 ·exact .ret ⟨⟨smS (by (try dsimp only);omega),trivial,hp _ _,smL (by (try dsimp only);simp only [List.length_cons,List.length_nil];omega) h3a,smI (by simp),trivial,trivial,trivial⟩,h6⟩
theorem ZkC {s:Za} (hs:Src s):Gets (Vf s) (fun r=>(sm Zc3 r.1∧(ZaF.Cells r.1).length=8)∧Src r.2):=by
 unfold Vf
 refine (Zar hs (by simp only [List.length_cons,List.length_nil];omega) (by simp)).bind fun r0 ⟨g0,h0⟩=>?_
 refine (Zar h0 (by simp only [List.length_cons,List.length_nil];omega) (by simp)).bind fun r1 ⟨g1,h1⟩=>?_
 refine (Zar h1 (by simp only [List.length_cons,List.length_nil];omega) (by simp)).bind fun r2 ⟨g2,h2⟩=>?_
 refine (Zar h2 (by simp only [List.length_cons,List.length_nil];omega) (by simp)).bind fun r3 ⟨g3,h3⟩=>?_
 refine (Zar h3 (by simp only [List.length_cons,List.length_nil];omega) (by simp)).bind fun r4 ⟨g4,h4⟩=>?_
 refine (Zde h4 (by simp only [List.length_cons,List.length_nil];omega) 2 2).bind fun r5 ⟨g5,h5⟩=>?_
 refine (Zde h5 (by simp only [List.length_cons,List.length_nil];omega) 2 3).bind fun r6 ⟨g6,h6⟩=>?_
 refine (Zde h6 (by simp only [List.length_cons,List.length_nil];omega) 3 2).bind fun r7 ⟨g7,h7⟩=>?_
 refine .ret ⟨⟨⟨smL (by (try dsimp only);simp only [List.length_cons,List.length_nil];omega) (fun x hx=>?_),trivial⟩,rfl⟩,h7⟩
 simp only [List.mem_cons,List.not_mem_nil,or_false] at hx
 rcases hx with rfl | rfl | rfl | rfl | rfl | rfl | rfl | rfl<;>assumption
/-
  Plain laws: what the draws of designs, wires and blocks yield.
-/
def Ziw (x:Zz):Prop:=(∃ r,Zz.Name x=117::r∧r.length≤2)∧(2≤(Zz.Zbh x).length∧(Zz.Zbh x).length≤4)
def ZnG (s:List UInt8):Prop:=∃ r,s=110::r∧r.length≤2
def Zkb (p:Zah):Prop:=(Zah.Name p).length≤2
structure Zll (d:Zp):Prop where
 n0:2≤(Zp.Instances d).length
 n1:(Zp.Instances d).length≤9
 inst:∀ x∈Zp.Instances d,Ziw x
 nl:(Zp.Zbh d).length=(Zp.Instances d).length+3
 net:∀ s∈Zp.Zbh d,ZnG s
 p0:4≤(Zp.Vk d).length
 p1:(Zp.Vk d).length≤5
 port:∀ p∈Zp.Vk d,Zkb p
theorem ZgJ {s:Za} (hs:Src s) {most:Int} (hm1:1≤most) (hm2:most≤8) (wild:Bool):Gets (Vh s most wild) (fun r=>Zll r.1∧Src r.2):=by
 unfold Vh
 have em:Wq (most-1)=most-1:=XD (by omega) (by omega)
 rw [em]
 refine (Zf hs _).bind fun r0 ⟨⟨a0,a1⟩,h0⟩=>?_
 have e:Wq (2+r0.1)=2+r0.1:=XD (by omega) (by omega)
 rw [e]
 have hN:2≤2+r0.1∧2+r0.1≤9:=by omega
 generalize 2+r0.1=N at hN
 refine Gets.loop (fun v=>0≤v.2.2.1∧(v.1.length:Int)+v.2.2.1=N∧v.2.1.length=v.1.length+3∧(∀ x∈v.1,Ziw x)∧(∀ x∈v.2.1,ZnG x)∧Src (v.2.2.2.1,v.2.2.2.2.1,v.2.2.2.2.2.1,())) (fun v=>v.2.2.1.toNat)
  ⟨by dsimp only;omega,by dsimp only [List.length_nil];omega,rfl,fun x hx=>(by cases hx),fun x hx=>?_,h0⟩ ?_
 ·simp only [List.nil_append,List.mem_cons,List.not_mem_nil,or_false] at hx
  rcases hx with rfl | rfl | rfl
  ·exact ⟨_,rfl,Nat.le_refl _⟩
  ·exact ⟨_,rfl,by simp⟩
  ·exact ⟨_,rfl,by simp⟩
 rintro ⟨ins,nets,n,c0,c1,c2,⟨⟩⟩ ⟨i1,i2,i3,i4,i5,i6⟩
 dsimp only at i1 i2 i3 i4 i5 i6
 show Gets (Xx wild ins nets n c0 c1 c2) _
 unfold Xx
 split
 ·rename_i hn
  refine (Zf i6 12).bind fun r ⟨⟨b0,b1⟩,h1⟩=>?_
  refine .at b0 (by simp only [List.length_cons,List.length_nil];omega) fun x hx _=>?_
  have hx7:0≤x∧x≤7:=by
   simp only [List.mem_cons,List.not_mem_nil,or_false] at hx
   omega
  refine (ZcZ (n:=(ins.length:Int)) (by omega) (by omega)).bind fun nm hnm=>?_
  refine .guard (by simp only [List.length_cons,List.length_nil];omega) ?_
  refine Gets.loop (fun v=>0≤v.1∧v.1≤3∧(v.2.2.2.2.1.length:Int)=v.1∧Src (v.2.1,v.2.2.1,v.2.2.2.1,())) (fun v=>(3-v.1).toNat) ⟨by dsimp only;omega,by dsimp only;omega,rfl,h1⟩ ?_
  rintro ⟨p,d0,d1,d2,l,⟨⟩⟩ ⟨j0,j1,j2,j3⟩
  dsimp only at j0 j1 j2 j3
  show Gets (Xv ins nets n x nm p d0 d1 d2 l) _
  unfold Xv
  refine .at hx7.1 (by simp only [List.length_cons,List.length_nil];omega) fun k hk _=>?_
  have hk4:2≤k∧k≤4:=by
   simp only [List.mem_cons,List.not_mem_nil,or_false] at hk
   omega
  have ek:Wq (k-1)=k-1:=XD (by omega) (by omega)
  have ep:Wq (p+1)=p+1:=XD (by omega) (by omega)
  have en:Wq (n-1)=n-1:=XD (by omega) (by omega)
  simp only [ek,ep,en]
  split
  ·rename_i hpk
   refine (Zf j3 _).bind fun r2 ⟨_,h2⟩=>?_
   refine (Zf h2 3).bind fun r3 ⟨_,h3⟩=>?_
   repeat' first
    | split
    | refine Gets.guard (by simp only [List.length_append,List.length_cons,List.length_nil];omega) ?_
    | exact .ret ⟨⟨by dsimp only;omega,by dsimp only;omega,by dsimp only;simp only [List.length_append,List.length_cons,List.length_nil];omega,h3⟩,by dsimp only;omega⟩
  ·refine .guard (by simp only [List.length_append,List.length_cons,List.length_nil];omega) ?_
   refine .guard (by simp only [List.length_append,List.length_cons,List.length_nil];omega) ?_
   refine (ZcZ (n:=(nets.length:Int)) (by omega) (by omega)).bind fun nn hnn=>?_
   refine .guard (by simp only [List.length_append,List.length_cons,List.length_nil];omega) ?_
   refine .guard (by simp only [List.length_append,List.length_cons,List.length_nil];omega) ?_
   refine .guard (by simp only [List.length_append,List.length_cons,List.length_nil];omega) ?_
   refine .ret ⟨⟨by dsimp only;omega,by dsimp only;simp only [List.length_append,List.length_cons,List.length_nil];omega,by dsimp only;simp only [List.length_append,List.length_cons,List.length_nil];omega,Yi i4 ⟨⟨nm,rfl,hnm⟩,?_⟩,Yi i5 ⟨nn,rfl,hnn⟩,j3⟩,by dsimp only;omega⟩
   show 2≤List.length ([]++l++[_])∧List.length ([]++l++[_])≤4
   simp only [List.length_append,List.length_cons,List.length_nil]
   omega
 ·rename_i hn
  refine Gets.loop (fun v=>0≤v.1∧v.1≤9∧v.2.2.2.2.1.length=ins.length∧(∀ x∈v.2.2.2.2.1,Ziw x)∧Src (v.2.1,v.2.2.1,v.2.2.2.1,())) (fun v=>(9-v.1).toNat) ⟨by dsimp only;omega,by dsimp only;omega,rfl,i4,i6⟩ ?_
  rintro ⟨p,d0,d1,d2,l,⟨⟩⟩ ⟨j0,j1,j2,j3,j4⟩
  dsimp only at j0 j1 j2 j3 j4
  show Gets (Xw wild nets p d0 d1 d2 l) _
  unfold Xw
  have ep:Wq (p+1)=p+1:=XD (by omega) (by omega)
  simp only [ep]
  split
  ·rename_i hp
   refine (Zf j4 4).bind fun r ⟨_,h1⟩=>?_
   split
   ·refine .at j0 hp fun x hx hxi=>?_
    have hxd:=j3 x hx
    have st:∀ v:Int,Gets ((Zc r.2 v).bind fun l01Next2=>(atI x.snd.snd.fst (0:Int)).bind fun x1=>some (.inl (p+1,l01Next2.snd.fst,l01Next2.snd.snd.fst,l01Next2.snd.snd.snd.fst,List.set l (Int.toNat p) (x.fst,x.snd.fst,List.set x.snd.snd.fst (Int.toNat (0:Int)) (Wq ((1:Int)+l01Next2.fst)),()),()):(Int×(List Int)×Int×Int×(List (List UInt8×Int×List Int×Unit))×Unit) ⊕ (((List Zz)×(List (List UInt8))×Int×(List Int)×Int×Int×Unit) ⊕ (Zp×Za))))
      (Rnd (fun v:Int×(List Int)×Int×Int×(List (List UInt8×Int×List Int×Unit))×Unit=>0≤v.1∧v.1≤9∧v.2.2.2.2.1.length=ins.length∧(∀ x∈v.2.2.2.2.1,Ziw x)∧Src (v.2.1,v.2.2.1,v.2.2.2.1,())) (fun v=>(9-v.1).toNat) (9-p).toNat
       (Rnd (fun v:(List Zz)×(List (List UInt8))×Int×(List Int)×Int×Int×Unit=>0≤v.2.2.1∧(v.1.length:Int)+v.2.2.1=N∧v.2.1.length=v.1.length+3∧(∀ x∈v.1,Ziw x)∧(∀ x∈v.2.1,ZnG x)∧Src (v.2.2.2.1,v.2.2.2.2.1,v.2.2.2.2.2.1,())) (fun v=>v.2.2.1.toNat) n.toNat (fun r=>Zll r.1∧Src r.2))):=fun v=>by
     refine (Zf h1 v).bind fun r2 ⟨_,h2⟩=>?_
     refine .at (by omega) (by have:=hxd.2.1;show (0:Int)<((Zz.Zbh x).length:Int);omega) fun _ _ _=>?_
     refine .ret ⟨⟨by dsimp only;omega,by dsimp only;omega,by dsimp only;rw [List.length_set];exact j2,Ze7 j3 ⟨hxd.1,?_⟩,h2⟩,by dsimp only;omega⟩
     show 2≤(List.set (Zz.Zbh x) _ _).length∧(List.set (Zz.Zbh x) _ _).length≤4
     rw [List.length_set]
     exact hxd.2
    repeat' first
     | exact st _
     | split
     | exact .ret ⟨⟨by dsimp only;omega,by dsimp only;omega,by dsimp only;rw [List.length_set];exact j2,Ze7 j3 hxd,h1⟩,by dsimp only;omega⟩
   ·exact .ret ⟨⟨by dsimp only;omega,by dsimp only;omega,j2,j3,h1⟩,by dsimp only;omega⟩
  ·refine .guard (by simp only [List.length_append,List.length_cons,List.length_nil];omega) ?_
   refine (Zf j4 2).bind fun r ⟨_,h1⟩=>?_
   have four:∀ a:Int,∀ p∈(([]:List (List UInt8×Int×Int×Unit))++[([(99:UInt8),(107:UInt8)],(1:Int),(0:Int),()),([(97:UInt8)],(1:Int),(1:Int),()),([(98:UInt8)],(1:Int),(2:Int),())]++[([(121:UInt8)],(2:Int),a,())]),Zkb p:=fun a p hp=>by
    simp only [List.nil_append,List.cons_append,List.mem_cons,List.not_mem_nil,or_false] at hp
    unfold Zkb
    rcases hp with rfl | rfl | rfl | rfl
    ·exact Nat.le_refl 2
    ·show 1≤2;omega
    ·show 1≤2;omega
    ·show 1≤2;omega
   split
   ·refine (Zf h1 _).bind fun r2 ⟨_,h2⟩=>?_
    refine .guard (by simp only [List.length_append,List.length_cons,List.length_nil];omega) ?_
    refine .ret ⟨⟨?_,?_,j3,?_,i5,?_,?_,Yi (four _) (show 1≤2 by omega)⟩,h2⟩
    ·show 2≤l.length;omega
    ·show l.length≤9;omega
    ·show nets.length=l.length+3;omega
    ·show 4≤List.length (_++_++_++_);simp only [List.length_append,List.length_cons,List.length_nil];omega
    ·show List.length (_++_++_++_)≤5;simp only [List.length_append,List.length_cons,List.length_nil];omega
   ·refine .ret ⟨⟨?_,?_,j3,?_,i5,?_,?_,four _⟩,h1⟩
    ·show 2≤l.length;omega
    ·show l.length≤9;omega
    ·show nets.length=l.length+3;omega
    ·show 4≤List.length (_++_++_);simp only [List.length_append,List.length_cons,List.length_nil];omega
    ·show List.length (_++_++_)≤5;simp only [List.length_append,List.length_cons,List.length_nil];omega
theorem Zll.few {d:Zp} (h:Zll d):Few d:=⟨by have:=h.n1;omega,by have:=h.p1;omega,fun x hx=>by have:=(h.inst x hx).2.2;omega⟩
theorem Zll.sm {d:Zp} (h:Zll d):sm ZdN d:=by
 have:=h.n1;have:=h.p1;have:=h.nl
 refine ⟨smL (by show (Zp.Instances d).length≤_;omega) (fun x hx=>?_),smL (by show (Zp.Zbh d).length≤_;omega) (fun x hx=>?_),smL (by show (Zp.Vk d).length≤_;omega) (fun x hx=>?_),trivial⟩
 ·obtain ⟨⟨r,e,hr⟩,h2⟩:=h.inst x hx
  refine ⟨smS ?_,trivial,smI ?_,trivial⟩
  ·show (Zz.Name x).length≤_
   rw [e,List.length_cons];omega
  ·show (Zz.Zbh x).length≤_
   omega
 ·obtain ⟨r,e,hr⟩:=h.net x hx
  refine smS ?_
  rw [e,List.length_cons];omega
 ·have:=h.port x hx
  unfold Zkb at this
  exact ⟨smS (by show (Zah.Name x).length≤_;omega),trivial,trivial,trivial⟩
def Ziz (w:QH):Prop:=(1≤(QH.Parent w).length∧(QH.Parent w).length≤4)∧(QH.Res w).length=(QH.Parent w).length∧(QH.Cap w).length=(QH.Parent w).length∧(QH.ZnH w).length≤100
theorem Ziz.sm {w:QH} (h:Ziz w):sm ZjY w:=by
 obtain ⟨h1,h2,h3,h4⟩:=h
 exact ⟨smI (by show (QH.Parent w).length≤_;omega),smI (by show (QH.Res w).length≤_;omega),smI (by show (QH.Cap w).length≤_;omega),smI (by show (QH.ZnH w).length≤_;omega),trivial⟩
theorem ZgS (l:List Int) (h:l.length≤1048576):XT l=some l:=by
 have h2:((([]:List Int).length+l.length)*8≤140737488355328):=by simp only [List.length_nil];omega
 unfold XT
 first
  | (rw [ZB h2,List.nil_append])
  | (rw [ZB h2];rfl)
  | rfl
theorem Zj6 {s:Za} (hs:Src s) {k:Int} (h0:0≤k) (h1:k≤100):Gets (Xi s k) (fun r=>Ziz r.1∧Src r.2):=by
 unfold Xi
 refine (Zf hs 6).bind fun r0 ⟨_,g0⟩=>?_
 have hl:Qi k r0.1=some ([(-1:Int)],[(0:Int)],[r0.1],List.replicate (Int.toNat k) (0:Int),()):=by
  unfold Qi
  rw [ZB (by omega),ZB (by omega),ZB (by omega),ZB (by omega)]
 rw [hl,Bq]
 refine (Zf g0 4).bind fun r1 ⟨⟨a,b⟩,g1⟩=>?_
 refine Gets.loop (fun v=>0≤v.1∧(v.2.2.2.2.1.length:Int)+v.1=1+r1.1∧1≤v.2.2.2.2.1.length∧v.2.2.2.2.2.1.length=v.2.2.2.2.1.length∧v.2.2.2.2.2.2.1.length=v.2.2.2.2.1.length∧v.2.2.2.2.2.2.2.1.length≤100∧Src (v.2.1,v.2.2.1,v.2.2.2.1,())) (fun v=>v.1.toNat)
  ⟨a,by show ((1:Nat):Int)+r1.1=1+r1.1;omega,Nat.le_refl _,rfl,rfl,by show (List.replicate (Int.toNat k) (0:Int)).length≤100;rw [List.length_replicate];omega,g1⟩ ?_
 rintro ⟨n,c0,c1,c2,l1,l2,l3,l4,⟨⟩⟩ ⟨i0,i1,i2,i3,i4,i5,i6⟩
 dsimp only at i0 i1 i2 i3 i4 i5 i6
 show Gets (Yx n c0 c1 c2 l1 l2 l3 l4) _
 unfold Yx
 have en:Wq (n-1)=n-1:=XD (by omega) (by omega)
 simp only [en]
 split
 ·rw [ZgS l1 (by omega),Bq,ZgS l2 (by omega),ZgS l3 (by omega)]
  refine (Zf i6 _).bind fun r2 ⟨_,h2⟩=>?_
  refine .guard (by simp only [List.length_append,List.length_cons,List.length_nil];omega) ?_
  rw [Bq]
  refine (Zf h2 _).bind fun r3 ⟨_,h3⟩=>?_
  refine .guard (by simp only [List.length_append,List.length_cons,List.length_nil];omega) ?_
  rw [Bq]
  refine (Zf h3 _).bind fun r4 ⟨_,h4⟩=>?_
  refine .guard (by simp only [List.length_append,List.length_cons,List.length_nil];omega) ?_
  refine .ret ⟨⟨by dsimp only;omega,?_,?_,?_,?_,i5,h4⟩,by dsimp only;omega⟩
  all_goals
   dsimp only
   simp only [List.length_append,List.length_cons,List.length_nil]
   omega
 ·refine Gets.loop (fun v=>0≤v.1∧v.1≤100∧v.2.2.2.2.1.length=l4.length∧Src (v.2.1,v.2.2.1,v.2.2.2.1,())) (fun v=>(100-v.1).toNat) ⟨by dsimp only;omega,by dsimp only;omega,rfl,i6⟩ ?_
  rintro ⟨p,d0,d1,d2,l,⟨⟩⟩ ⟨j0,j1,j2,j3⟩
  dsimp only at j0 j1 j2 j3
  show Gets (Yw l1 l2 l3 p d0 d1 d2 l) _
  unfold Yw
  have ep:Wq (p+1)=p+1:=XD (by omega) (by omega)
  simp only [ep]
  split
  ·rename_i hp
   refine (Zf j3 _).bind fun r2 ⟨_,h2⟩=>?_
   refine .at j0 hp fun _ _ _=>?_
   exact .ret ⟨⟨by dsimp only;omega,by dsimp only;omega,by dsimp only;rw [List.length_set];exact j2,h2⟩,by dsimp only;omega⟩
  ·refine .ret ⟨⟨⟨?_,?_⟩,i3,i4,?_⟩,j3⟩
   ·exact i2
   ·show l1.length≤4;omega
   ·show l.length≤100;omega
structure ZfM (b:Zv):Prop where
 lib:sm Zc3 (Zv.Library b)
 des:Zll (Zv.Design b)
 wl:(Zv.ZlA b).length=(Zp.Zbh (Zv.Design b)).length
 wires:∀ w∈Zv.ZlA b,Ziz w
theorem ZfM.sm {b:Zv} (h:ZfM b):sm ZjX b:=by
 have:=h.wl;have:=h.des.nl;have:=h.des.n1
 exact ⟨h.lib,h.des.sm,smL (by show (Zv.ZlA b).length≤_;omega) (fun w hw=>(h.wires w hw).sm),trivial⟩
theorem ZeD {s:Za} (hs:Src s) {most:Int} (hm1:1≤most) (hm2:most≤8) (wild:Bool):Gets (Qz s most wild) (fun r=>ZfM r.1∧Src r.2):=by
 unfold Qz
 refine (ZkC hs).bind fun r0 ⟨hl,h0⟩=>?_
 refine (ZgJ h0 hm1 hm2 wild).bind fun r1 ⟨hd,h1⟩=>?_
 have hnl:=hd.nl
 have hn1:=hd.n1
 refine Gets.loop (fun v=>0≤v.2.1∧v.2.1≤((Zp.Zbh r1.1).length:Int)∧(v.1.length:Int)=v.2.1∧(∀ w∈v.1,Ziz w)∧Src (v.2.2.1,v.2.2.2.1,v.2.2.2.2.1,())) (fun v=>(100-v.2.1).toNat)
  ⟨by dsimp only;omega,by dsimp only;omega,rfl,fun w hw=>(by cases hw),h1⟩ ?_
 rintro ⟨ws,n,c0,c1,c2,⟨⟩⟩ ⟨i0,i1,i2,i3,i4⟩
 dsimp only at i0 i1 i2 i3 i4
 show Gets (Xy r0 r1 ws n c0 c1 c2) _
 unfold Xy
 have en:Wq (n+1)=n+1:=XD (by omega) (by omega)
 simp only [en]
 split
 ·rename_i hn
  have hn:n<((Zp.Zbh r1.1).length:Int):=hn
  rw [ZcT r1.1 n hd.few,Bq]
  have hsl:(sinks r1.1 n).length≤78:=Nat.le_trans (Zgm n (places r1.1) 0) (Zck hd.few)
  refine (Zj6 i4 (k:=((sinks r1.1 n).length:Int)) (by omega) (by omega)).bind fun r ⟨hw,h2⟩=>?_
  refine .guard (by simp only [List.length_append,List.length_cons,List.length_nil];omega) (.ret ⟨⟨by dsimp only;omega,by dsimp only;omega,?_,Yi i3 hw,h2⟩,by dsimp only;omega⟩)
  dsimp only
  simp only [List.length_append,List.length_cons,List.length_nil]
  omega
 ·rename_i hn
  have hn:¬n<((Zp.Zbh r1.1).length:Int):=hn
  refine .ret ⟨⟨hl.1,hd,?_,i3⟩,i4⟩
  show ws.length=(Zp.Zbh r1.1).length
  omega
/-
  Plain laws: what the draws of edits yield.
-/
def DN (d:Zp):Prop:=(Zp.Zbh d).length=(ZpY d).length+3∧(∃ r,(ZpY d)[0]?=some (117::r))∧∃ r,(Zp.Zbh d)[3]?=some (110::r)
theorem Zll.dn {d:Zp} (h:Zll d):DN d:=by
 have hn:=h.n0
 have hx:=List.getElem?_eq_getElem (show 0<(Zp.Instances d).length by omega)
 generalize (Zp.Instances d)[0]=x at hx
 have hs:=List.getElem?_eq_getElem (show 3<(Zp.Zbh d).length by have:=h.nl;omega)
 generalize (Zp.Zbh d)[3]'(by have:=h.nl;omega)=s at hs
 obtain ⟨⟨r,e,_⟩,_⟩:=h.inst x (List.mem_of_getElem? hx)
 obtain ⟨r2,e2,_⟩:=h.net s (List.mem_of_getElem? hs)
 refine ⟨by unfold ZpY;rw [List.length_map];exact h.nl,⟨r,?_⟩,⟨r2,by rw [hs,e2]⟩⟩
 unfold ZpY
 rw [List.getElem?_map,hx]
 exact congrArg some e
theorem ZAn {d d':Zp} (h:DN d) (h1:ZpY d'=ZpY d) (h2:Zp.Zbh d'=Zp.Zbh d):DN d':=by
 unfold DN
 rw [h1,h2]
 exact h
theorem ZzM {b:Zv} {e:Zbk} (h:ZtQ b e) (he:sm Zn2 e) (hd:DN (Zv.Design b)) {r:Zv} (hr:Zpy e b=some r):DN (Zv.Design r):=by
 have hB:=h.blk
 by_cases k1:Zbk.Kind e=1
 ·obtain ⟨p,x,c,c2,hp,h0,_,hx,_⟩:=h.poss.1 k1
  have hx2:(Zp.Instances (Zv.Design b))[p.1.toNat]?=some x:=by
   unfold atI at hx
   rw [if_pos h0] at hx
   exact hx
  rw [app1 hB k1 hp h0 hx2] at hr
  injection hr with hr
  subst hr
  refine ZAn hd ?_ ?_
  ·unfold swapped
   rw [hx2]
   show List.map Zz.Name (List.set _ _ _)=_
   rw [List.map_set]
   exact Zc0 (by rw [List.getElem?_map,hx2];rfl)
  ·unfold swapped
   rw [hx2]
 by_cases k2:Zbk.Kind e=2
 ·obtain ⟨p,c,hp,hpd,_⟩:=h.poss.2.1 k2
  rw [app2 h k2 (ZvB he).1 hp hpd] at hr
  injection hr with hr
  subst hr
  obtain ⟨d1,⟨r1,d2⟩,⟨r2,d3⟩⟩:=hd
  have e1:ZpY (ZtC b e p)=ZpY (Zv.Design b)++[Zbk.Name e]:=by
   show List.map Zz.Name (Zp.Instances (conn (Zv.Design b) p.1 p.2.1 _)++[Zum b e p])=_
   rw [List.map_append]
   exact congrArg (·++[Zbk.Name e]) (Zt9 (Zv.Design b) p.1 p.2.1 _)
  have e2:Zp.Zbh (ZtC b e p)=Zp.Zbh (Zv.Design b)++[Zbk.Name e]:=by
   show Zp.Zbh (conn (Zv.Design b) p.1 p.2.1 _)++[Zbk.Name e]=_
   rw [ZpO]
  have l1:=(List.getElem?_eq_some_iff.1 d2).1
  have l2:=(List.getElem?_eq_some_iff.1 d3).1
  show DN (ZtC b e p)
  unfold DN
  rw [e1,e2]
  refine ⟨by simp only [List.length_append,List.length_cons,List.length_nil];omega,⟨r1,?_⟩,⟨r2,?_⟩⟩
  ·rw [List.getElem?_append_left l1];exact d2
  ·rw [List.getElem?_append_left l2];exact d3
 by_cases k3:Zbk.Kind e=3
 ·have hL:=h.poss.2.2.1 k3
  obtain ⟨k,p,m,_,_,_,_,ha⟩:=app3 hB hL k3
  rw [ha] at hr
  injection hr with hr
  subst hr
  obtain ⟨x,c,w,m',hn,hx,_,_,_,_,_,_,_,hnm,_⟩:=hL
  obtain ⟨d1,⟨r1,d2⟩,⟨r2,d3⟩⟩:=hd
  have hil:(ZpY (Zv.Design b)).length=(Zp.Instances (Zv.Design b)).length:=List.length_map ..
  have hN1:(Zp.Zbh (Zv.Design b))[(Zp.Zbh (Zv.Design b)).length-1]?=some (Zz.Name x):=by
   have tN:Int.toNat (((Zp.Zbh (Zv.Design b)).length:Int)-1)=(Zp.Zbh (Zv.Design b)).length-1:=by omega
   unfold atI at hnm
   rw [if_pos (by omega),tN] at hnm
   exact hnm
  have hin:(ZpY (Zv.Design b))[(Zp.Instances (Zv.Design b)).length-1]?=some (Zz.Name x):=by
   show (List.map Zz.Name _)[_]?=_
   rw [List.getElem?_map,hx];rfl
  have h2:2≤(Zp.Instances (Zv.Design b)).length:=by
   rcases Nat.lt_or_ge 1 (Zp.Instances (Zv.Design b)).length with q | q
   ·exact q
   ·exfalso
    have q1:(Zp.Instances (Zv.Design b)).length=1:=by omega
    rw [q1] at hin hil
    rw [d1,hil] at hN1
    rw [show 1-1=0 from rfl,d2] at hin
    rw [show 1+3-1=3 from rfl,d3] at hN1
    injection hin with hin
    injection hN1 with hN1
    rw [←hin] at hN1
    injection hN1 with hN1
    exact absurd hN1 (by decide)
  have e1:ZpY (unD b p m)=(ZpY (Zv.Design b)).take ((Zp.Instances (Zv.Design b)).length-1):=by
   have:=Zt9 (Zv.Design b) p.1 p.2.1 m
   show List.map Zz.Name ((Zp.Instances (conn (Zv.Design b) p.1 p.2.1 m)).take _)=_
   rw [List.map_take,ZpC]
   exact congrArg (fun l=>List.take ((Zp.Instances (Zv.Design b)).length-1) l) this
  have e2:Zp.Zbh (unD b p m)=(Zp.Zbh (Zv.Design b)).take ((Zp.Zbh (Zv.Design b)).length-1):=by
   show (Zp.Zbh (conn (Zv.Design b) p.1 p.2.1 m)).take _=_
   rw [ZpO]
  show DN (unD b p m)
  unfold DN
  rw [e1,e2]
  refine ⟨by rw [List.length_take,List.length_take];omega,⟨r1,?_⟩,⟨r2,?_⟩⟩
  ·rw [List.getElem?_take,if_pos (by omega)];exact d2
  ·rw [List.getElem?_take,if_pos (by omega)];exact d3
 by_cases k4:Zbk.Kind e=4
 ·obtain ⟨p,hp,hpd,_⟩:=h.poss.2.2.2.1 k4
  obtain ⟨_,hn,_⟩:=h.range.2.1 k4
  rw [app4 hB k4 hp hpd hn] at hr
  injection hr with hr
  subst hr
  exact ZAn hd (Zt9 _ _ _ _) ZpO
 ·have k5:Zbk.Kind e=5:=by have:=h.blank;unfold Blank at this;omega
  rw [ZAS hB k5 (h.range.2.2 k5) (ZvB he).2] at hr
  injection hr with hr
  subst hr
  exact hd
def Zyx (b:Zv):Prop:=sm ZjX b∧(ZvC b→Zv.ZlA b≠[]→DN (Zv.Design b))
theorem DN.insts {d:Zp} (h:DN d):1≤(Zp.Instances d).length:=by
 obtain ⟨_,⟨r,e⟩,_⟩:=h
 have:=(List.getElem?_eq_some_iff.1 e).1
 unfold ZpY at this
 rw [List.length_map] at this
 omega
theorem Zzs {d:Zp} (hf:Few d) (i p:Int):Gets (Zs1 d i p) (fun _=>True):=by
 have hl:=Zck hf
 unfold Zs1
 rw [JF d hf,Bq]
 refine Gets.loop (fun v=>0≤v.1∧v.1≤100) (fun v=>(100-v.1).toNat) ⟨Int.le_refl _,by dsimp only;omega⟩ ?_
 rintro ⟨k,⟨⟩⟩ ⟨i0,i1⟩
 dsimp only at i0 i1
 show Gets (Ztj i p (places d) k) _
 unfold Ztj
 split
 ·rename_i hk
  have hk:k<((places d).length:Int):=hk
  have ek:Wq (k+1)=k+1:=XD (by omega) (by omega)
  simp only [ek]
  refine .at i0 hk fun x _ _=>?_
  repeat' first
   | exact Gets.ret (show Rnd _ _ _ (fun _=>True) (.inr _) from trivial)
   | exact .ret ⟨⟨by dsimp only;omega,by dsimp only;omega⟩,by dsimp only;omega⟩
   | split
 ·exact Gets.ret (show Rnd _ _ _ (fun _=>True) (.inr _) from trivial)
theorem Zyp {s:Za} (hs:Src s) {b:Zv} (hf:Few (Zv.Design b)) (hne:1≤(places (Zv.Design b)).length):Gets (ZpK s b) (fun r=>Src r.2):=by
 have hl:=Zck hf
 unfold ZpK
 rw [JF _ hf,Bq]
 refine (Zf hs _).bind fun r0 ⟨⟨a0,a1⟩,h0⟩=>?_
 refine Gets.loop (fun v=>(0≤v.1∧v.1<((places (Zv.Design b)).length:Int))∧0≤v.2.1∧v.2.1≤100) (fun v=>(100-v.2.1).toNat) ⟨⟨a0,by dsimp only;omega⟩,by dsimp only;omega,by dsimp only;omega⟩ ?_
 rintro ⟨k,i,⟨⟩⟩ ⟨⟨k0,k1⟩,i0,i1⟩
 dsimp only at k0 k1 i0 i1
 have fin:∀ k':Int,Gets ((Zc r0.snd (12:Int)).bind fun l01Next1 =>
   if l01Next1.fst=(0:Int) then
    (Zc l01Next1.snd (Wq ((↑(List.length (places (Zv.Design b))):Int)+(2:Int)))).bind fun l01Next2 =>
    some (.inr (Wq (l01Next2.fst-(1:Int)),l01Next2.snd))
   else
    some (.inr (k',l01Next1.snd):(Int×Int×Unit) ⊕ (Int×Za)))
   (Rnd (fun v:Int×Int×Unit=>(0≤v.1∧v.1<((places (Zv.Design b)).length:Int))∧0≤v.2.1∧v.2.1≤100) (fun v=>(100-v.2.1).toNat) (100-i).toNat (fun r=>Src r.2)):=fun k'=>by
  refine (Zf h0 12).bind fun r1 ⟨_,h1⟩=>?_
  split
  ·refine (Zf h1 _).bind fun r2 ⟨_,h2⟩=>?_
   exact .ret (show Src r2.2 from h2)
  ·exact .ret (show Src r1.2 from h1)
 show Gets (ZrX (places (Zv.Design b)) r0 k i) _
 unfold ZrX
 split
 ·rename_i hi
  have hi:i<((places (Zv.Design b)).length:Int):=hi
  refine .at k0 k1 fun x _ _=>?_
  split
  ·have ek:Wq (k+1)=k+1:=XD (by omega) (by omega)
   have ei:Wq (i+1)=i+1:=XD (by omega) (by omega)
   rw [ek,ei]
   refine .guard (by show ((places (Zv.Design b)).length:Int)≠0;omega) (.ret ⟨⟨⟨Int.tmod_nonneg _ (by omega),Int.tmod_lt_of_pos _ (by omega)⟩,by dsimp only;omega,by dsimp only;omega⟩,by dsimp only;omega⟩)
  ·exact fin k
 ·exact fin k
noncomputable def tl (b:Zv) (P:List Zk) (k p c n d:Int) (nm:List UInt8) (w:QH) (s:Za):Option (Zbk×Za) :=
 (Zc s (30:Int)).bind fun r =>
 if r.fst=(0:Int) then
  (Zc r.snd (7:Int)).bind fun r2=>some ((r2.fst,p,c,n,d,nm,w,()),r2.snd)
 else
  if r.fst=(1:Int) then
   (Zc r.snd (10:Int)).bind fun r2=>some ((k,p,Wq (r2.fst-(1:Int)),n,d,nm,w,()),r2.snd)
  else
   if r.fst=(2:Int) then
    (Zc r.snd (Wq ((↑(List.length (Zv.ZlA b)):Int)+(2:Int)))).bind fun r2=>some ((k,p,c,Wq (r2.fst-(1:Int)),d,nm,w,()),r2.snd)
   else
    if r.fst=(3:Int) then
     (Zc r.snd (Wq ((↑(List.length P):Int)+(2:Int)))).bind fun r2=>some ((k,Wq (r2.fst-(1:Int)),c,n,d,nm,w,()),r2.snd)
    else
     if r.fst=(4:Int) then
      some ((k,p,c,n,d,[(66:UInt8),(97:UInt8),(100:UInt8)],w,()),r.snd)
     else
      some ((k,p,c,n,d,nm,w,()),r.snd)
abbrev ZAb (r:Zbk×Za):Prop:=sm Zn2 r.1∧Src r.2
theorem ZxH {b:Zv} {P:List Zk} {k p c n d:Int} {nm:List UInt8} {w:QH} {s:Za} (hs:Src s) (hn:nm.length≤10) (hw:sm ZjY w):Gets (tl b P k p c n d nm w s) ZAb:=by
 have e:∀ (k p c n d:Int) (nm:List UInt8),nm.length≤10→sm Zn2 ((k,p,c,n,d,nm,w,()):Zbk):=fun k p c n d nm h=>⟨trivial,trivial,trivial,trivial,trivial,smS (by dsimp only;omega),hw,trivial⟩
 unfold tl
 refine (Zf hs 30).bind fun r ⟨_,h1⟩=>?_
 split
 ·exact (Zf h1 _).bind fun r2 ⟨_,h2⟩=>.ret ⟨e _ _ _ _ _ _ hn,h2⟩
 split
 ·exact (Zf h1 _).bind fun r2 ⟨_,h2⟩=>.ret ⟨e _ _ _ _ _ _ hn,h2⟩
 split
 ·exact (Zf h1 _).bind fun r2 ⟨_,h2⟩=>.ret ⟨e _ _ _ _ _ _ hn,h2⟩
 split
 ·exact (Zf h1 _).bind fun r2 ⟨_,h2⟩=>.ret ⟨e _ _ _ _ _ _ hn,h2⟩
 split
 ·exact .ret ⟨e _ _ _ _ _ _ (by show 3≤10;omega),h1⟩
 ·exact .ret ⟨e _ _ _ _ _ _ hn,h1⟩
abbrev ZAE:QH:=(([]:List Int),([]:List Int),([]:List Int),([]:List Int),())
theorem ZxB:sm ZjY ZAE:=Zvb
noncomputable def kd1 (b:Zv) (P:List Zk) (s:Za):Option (Zbk×Za) :=
 (Zc s (↑(List.length (Zp.Instances (Zv.Design b))):Int)).bind fun l01Next1 =>
 (atI (Zp.Instances (Zv.Design b)) l01Next1.fst).bind fun x0 =>
 (Zs1 (Zv.Design b) l01Next1.fst (Wq ((↑(List.length (Zz.Zbh x0)):Int)-(1:Int)))).bind fun l05Find0 =>
 (atI ([(1:Int),(0:Int),(3:Int),(2:Int),(4:Int),(6:Int),(5:Int),(7:Int)]) (Int.tmod (Zz.Cell x0) (8:Int))).bind fun x1 =>
 tl b P 1 l05Find0 x1 0 0 [] ZAE l01Next1.snd
noncomputable def kd2 (b:Zv) (P:List Zk) (s:Za):Option (Zbk×Za) :=
 (ZpK s b).bind fun l08DrawSink0 =>
 (Zc l08DrawSink0.snd (2:Int)).bind fun l01Next1 =>
 (Zc l01Next1.snd (3:Int)).bind fun l01Next2 =>
 (XG l01Next2.fst).bind fun l01Number0 =>
 Zj ((↑(List.length [(120:UInt8)]):Int)+(↑(List.length l01Number0):Int)≤(9223372036854775807:Int)) <|
 tl b P 2 l08DrawSink0.fst l01Next1.fst 0 0 ([(120:UInt8)]++l01Number0) ZAE l01Next2.snd
noncomputable def kd4 (b:Zv) (P:List Zk) (s:Za):Option (Zbk×Za) :=
 (ZpK s b).bind fun l08DrawSink0 =>
 (Zc l08DrawSink0.snd (↑(List.length (Zv.ZlA b)):Int)).bind fun l01Next1 =>
 (atI (Zv.ZlA b) l01Next1.fst).bind fun x0 =>
 (Zc l01Next1.snd (↑(List.length (QH.Parent x0)):Int)).bind fun l01Next2 =>
 tl b P 4 l08DrawSink0.fst 0 l01Next1.fst l01Next2.fst [] ZAE l01Next2.snd
noncomputable def kd5 (b:Zv) (P:List Zk) (s:Za):Option (Zbk×Za) :=
 (Zc s (↑(List.length (Zv.ZlA b)):Int)).bind fun l01Next1 =>
 (QT (Zv.Design b) l01Next1.fst).bind fun l05Sinks0 =>
 (Xi l01Next1.snd (↑(List.length l05Sinks0):Int)).bind fun l07DrawWire0 =>
 tl b P 5 0 0 l01Next1.fst 0 [] l07DrawWire0.fst l07DrawWire0.snd
theorem Zxf {s:Za} (hs:Src s) {b:Zv} (hb:Zyx b):Gets (Zs2 s b) ZAb:=by
 obtain ⟨hsm,hdn⟩:=hb
 unfold Zs2
 rw [Zrz b hsm,Bq]
 have un:Gets (some (((3:Int),(0:Int),(0:Int),(0:Int),(0:Int),([]:List UInt8),(([]:List Int),([]:List Int),([]:List Int),([]:List Int),()),()),s)) ZAb :=
  .ret ⟨⟨trivial,trivial,trivial,trivial,trivial,smS (by simp),ZxB,trivial⟩,hs⟩
 refine Gets.ite (fun hB=>?_) (fun _=>un)
 have hB:ZqJ b:=⟨(Zgv _).1 hB,hsm⟩
 refine Gets.ite (fun _=>un) (fun hw=>?_)
 have hf:=hB.ok.1.few
 have hwl:1≤(Zv.ZlA b).length:=by omega
 have hD:=hdn hB.ok (by intro q;rw [q] at hwl;simp at hwl)
 have hi:=hD.insts
 have hne:1≤(places (Zv.Design b)).length:=by
  have hx:=List.getElem?_eq_getElem (show 0<(Zp.Instances (Zv.Design b)).length by omega)
  generalize (Zp.Instances (Zv.Design b))[0]=x at hx
  obtain ⟨_,⟨c,hc,hcl⟩,_⟩:=hB.ok.1.2.2.1 x (List.mem_of_getElem? hx)
  have hc:(ZaF.Cells (Zv.Library b))[(Zz.Cell x).toNat]?=some c:=hc
  have h2:2≤(QG.ZoY c).length:=(hB.ok.1.1.2.1 c (List.mem_of_getElem? hc)).2.1.1
  have hn:=List.getElem?_eq_getElem (show 0<(Zz.Zbh x).length by omega)
  have:=(List.getElem?_eq_some_iff.1 (ZsY hx hn)).1
  omega
 rw [JF _ hf,Bq]
 have g1:∀ s',Src s'→Gets (kd1 b (places (Zv.Design b)) s') ZAb:=fun s' h=>by
  unfold kd1
  refine (Zf h _).bind fun r1 ⟨⟨a0,a1⟩,h1⟩=>?_
  refine .at a0 (by omega) fun x hx _=>?_
  obtain ⟨⟨c0,_⟩,_⟩:=hB.ok.1.2.2.1 x hx
  refine (Zzs hf _ _).bind fun f _=>?_
  have t0:=Int.tmod_nonneg (a:=Zz.Cell x) 8 c0
  have t1:=Int.tmod_lt_of_pos (Zz.Cell x) (show (0:Int)<8 by omega)
  refine .at t0 (by simp only [List.length_cons,List.length_nil];omega) fun y _ _=>?_
  exact ZxH h1 (by simp) ZxB
 have g2:∀ s',Src s'→Gets (kd2 b (places (Zv.Design b)) s') ZAb:=fun s' h=>by
  unfold kd2
  refine (Zyp h hf hne).bind fun r0 h0=>?_
  refine (Zf h0 2).bind fun r1 ⟨_,h1⟩=>?_
  refine (Zf h1 3).bind fun r2 ⟨⟨a0,a1⟩,h2⟩=>?_
  refine (ZcZ a0 (by omega)).bind fun nm hnm=>?_
  refine .guard (by simp only [List.length_cons,List.length_nil];omega) ?_
  exact ZxH h2 (by simp only [List.length_append,List.length_cons,List.length_nil];omega) ZxB
 have g3:∀ s',Src s'→Gets (tl b (places (Zv.Design b)) 3 0 0 0 0 [] ZAE s') ZAb:=fun s' h=>ZxH h (by simp) ZxB
 have g4:∀ s',Src s'→Gets (kd4 b (places (Zv.Design b)) s') ZAb:=fun s' h=>by
  unfold kd4
  refine (Zyp h hf hne).bind fun r0 h0=>?_
  refine (Zf h0 _).bind fun r1 ⟨⟨a0,a1⟩,h1⟩=>?_
  refine .at a0 (by omega) fun x hx _=>?_
  refine (Zf h1 _).bind fun r2 ⟨_,h2⟩=>?_
  exact ZxH h2 (by simp) ZxB
 have g5:∀ s',Src s'→Gets (kd5 b (places (Zv.Design b)) s') ZAb:=fun s' h=>by
  unfold kd5
  refine (Zf h _).bind fun r1 ⟨_,h1⟩=>?_
  rw [ZcT _ _ hf,Bq]
  have hsl:(sinks (Zv.Design b) r1.1).length≤78:=Nat.le_trans (Zgm r1.1 (places (Zv.Design b)) 0) (Zck hf)
  refine (Zj6 h1 (k:=((sinks (Zv.Design b) r1.1).length:Int)) (by omega) (by omega)).bind fun r2 ⟨hw,h2⟩=>?_
  exact ZxH h2 (by simp) hw.sm
 refine (Zf hs 8).bind fun r ⟨_,h1⟩=>?_
 repeat' first
  | exact g1 _ h1
  | exact g2 _ h1
  | exact g3 _ h1
  | exact g4 _ h1
  | exact g5 _ h1
  | refine Gets.ite (fun _=>?_) (fun _=>?_)
/-
  Plain laws: drawn edits applied; an edit, followed by its inverse, restores the block: the law FnEditInverse.
-/
theorem ZtQ.net {b:Zv} {e:Zbk} (h:ZtQ b e):1≤(Zp.Zbh (Zv.Design b)).length:=by
 have hB:=h.blk
 have at_:∀ {n:Int},Zre (Zv.Design b) n→1≤(Zp.Zbh (Zv.Design b)).length:=fun {n} hn=>by
  have:=hn.1;have:=hn.2;omega
 by_cases k1:Zbk.Kind e=1
 ·obtain ⟨p,x,c,c2,hp,_⟩:=h.poss.1 k1
  exact at_ (Zp0 hB.ok.1 hp.mem)
 by_cases k2:Zbk.Kind e=2
 ·obtain ⟨p,c,hp,_⟩:=h.poss.2.1 k2
  exact at_ (Zp0 hB.ok.1 hp.mem)
 by_cases k3:Zbk.Kind e=3
 ·obtain ⟨x,c,w,m,hn,hx,_,_,_,_,hm,_⟩:=h.poss.2.2.1 k3
  obtain ⟨_,_,hnet⟩:=hB.ok.1.2.2.1 x (List.mem_of_getElem? hx)
  exact at_ (hnet m (List.mem_of_getElem? (show (Zz.Zbh x)[0]?=some m from hm)))
 by_cases k4:Zbk.Kind e=4
 ·obtain ⟨p,hp,_⟩:=h.poss.2.2.2.1 k4
  exact at_ (Zp0 hB.ok.1 hp.mem)
 ·have k5:Zbk.Kind e=5:=by have:=h.blank;unfold Blank at this;omega
  exact at_ (h.range.2.2 k5)
theorem ZxX:Zyx ZyF:=⟨Zze,fun _ h=>absurd rfl h⟩
theorem ZxD (b:Zv) (e:Zbk) (hb:Zyx b) (he:sm Zn2 e):Gets (ZsB b e) (fun r=>Zyx r.1):=by
 obtain ⟨c,h2,h3⟩:=ZDW b e hb.1 he
 unfold ZsB
 rw [h2,Bq]
 by_cases hc:c=0
 ·have hC:=h3 hc
  obtain ⟨r,a1,a2,a3,_⟩:=ZzN hC he
  rw [if_pos hc,a2,Bq]
  have hw:=hC.blk.ok.2.1
  have hn:=hC.net
  exact .ret ⟨a3.sm,fun _ _=>ZzM hC he (hb.2 hC.blk.ok (by intro q;rw [q] at hw;simp only [List.length_nil] at hw;omega)) a1⟩
 ·rw [if_neg hc]
  exact .ret ZxX
theorem Zy9 {s:Za} (hs:Src s) {b:Zv} (hb:Zyx b) {most:Int} (h0:0≤most) (h1:most≤10):Gets (Zsr s b most) (fun r=>(r.1.length≤10∧∀ e∈r.1,sm Zn2 e)∧Src r.2):=by
 unfold Zsr
 rw [XD (n:=most+1) (by omega) (by omega)]
 refine (Zf hs _).bind fun r0 ⟨⟨a0,a1⟩,g0⟩=>?_
 refine Gets.loop (fun v=>0≤v.2.1∧v.2.1≤10∧(v.1.length:Int)+v.2.1≤10∧(∀ e∈v.1,sm Zn2 e)∧Src (v.2.2.1,v.2.2.2.1,v.2.2.2.2.1,())∧Zyx ((v.2.2.2.2.2.1,()),(v.2.2.2.2.2.2.1,v.2.2.2.2.2.2.2.1,v.2.2.2.2.2.2.2.2.1,()),v.2.2.2.2.2.2.2.2.2.1,())) (fun v=>v.2.1.toNat)
  ⟨a0,by dsimp only;omega,by dsimp only [List.length_nil];omega,fun x hx=>(by cases hx),g0,hb⟩ ?_
 rintro ⟨out,n,c0,c1,c2,c3,c4,c5,c6,c7,⟨⟩⟩ ⟨i0,i1,i2,i3,i4,i5⟩
 dsimp only at i0 i1 i2 i3 i4 i5
 show Gets (ZrL out n c0 c1 c2 c3 c4 c5 c6 c7) _
 unfold ZrL
 have en:Wq (n-1)=n-1:=XD (by omega) (by omega)
 rw [en]
 refine Gets.ite (fun hn=>?_) (fun _=>?_)
 ·refine (Zxf i4 i5).bind fun r ⟨he,h2⟩=>?_
  refine (ZxD _ _ i5 he).bind fun q hq=>?_
  refine Gets.ite (fun _=>?_) (fun _=>?_)
  ·exact .guard (by simp only [List.length_cons,List.length_nil];omega) (.ret ⟨⟨by dsimp only;omega,by dsimp only;omega,by dsimp only;simp only [List.length_append,List.length_cons,List.length_nil];omega,Yi i3 he,h2,hq⟩,by dsimp only;omega⟩)
  ·exact .ret ⟨⟨by dsimp only;omega,by dsimp only;omega,by dsimp only;omega,i3,h2,i5⟩,by dsimp only;omega⟩
 ·exact .ret (show (out.length≤10∧∀ e∈out,sm Zn2 e)∧Src (c0,c1,c2,()) from ⟨⟨by omega,i3⟩,i4⟩)
theorem Zzj {s:Za} (hs:Src s):Gets (Ztk s) (fun r=>Zyx r.1∧Src r.2):=by
 unfold Ztk
 refine (Zf hs 3).bind fun r0 ⟨_,h0⟩=>?_
 refine (ZeD h0 (most:=6) (by omega) (by omega) _).bind fun r1 ⟨hb,h1⟩=>?_
 obtain ⟨bl,bd,bw,bwi⟩:=hb
 have hdn:=bd.dn
 have hnl:=bd.nl
 have hn0:=bd.n0
 have hn1:=bd.n1
 have hwl:5≤(Zv.ZlA r1.1).length∧(Zv.ZlA r1.1).length≤12:=by omega
 refine (Zf h1 _).bind fun r2 ⟨⟨a0,a1⟩,h2⟩=>?_
 have a1:r2.1<((Zv.ZlA r1.1).length:Int):=by
  have a1:r2.1<((Zv.ZlA r1.1).length:Int)∨r2.1=0:=a1
  omega
 refine (Zf h2 20).bind fun r3 ⟨_,h3⟩=>?_
 have sw:∀ w∈Zv.ZlA r1.1,sm ZjY w:=fun w hw=>(bwi w hw).sm
 have set_:∀ (w:QH),sm ZjY w→sm (.sl ZjY) (List.set (Zv.ZlA r1.1) (Int.toNat r2.1) w):=fun w hw=>smL (by rw [List.length_set];omega) (Ze7 sw hw)
 have fin:∀ (ws:List QH) (t:Za),sm (.sl ZjY) ws→Src t→Gets (some ((r1.1.1,r1.1.2.1,ws,()),t)) (fun r:Zv×Za=>Zyx r.1∧Src r.2):=fun ws t hw ht =>
  .ret ⟨⟨Zs0 bl bd.sm hw,fun _ _=>hdn⟩,ht⟩
 refine Gets.ite (fun _=>?_) (fun _=>?_)
 ·refine .guard (by show (1:Int)≤((Zv.ZlA r1.1).length:Int);omega) (.guard (Int.le_refl _) ?_)
  refine fin _ _ (smL ?_ (fun w hw=>sw w ?_)) h3
  ·show (List.take _ (List.drop _ (Zv.ZlA r1.1))).length≤_
   rw [List.length_take,List.length_drop];omega
  ·exact List.mem_of_mem_drop (List.mem_of_mem_take hw)
 refine Gets.ite (fun _=>?_) (fun _=>?_)
 ·refine .at a0 a1 fun w hw _=>?_
  obtain ⟨⟨w1,w2⟩,w3,w4,w5⟩:=bwi w hw
  have w5:(w.snd.snd.snd.fst).length≤100:=w5
  rw [ZgS _ (by omega),Bq]
  refine .guard (by simp only [List.length_cons,List.length_nil];omega) (fin _ _ (set_ _ ?_) h3)
  refine ZuG (by show (QH.Parent w).length≤_;omega) (by show (QH.Res w).length≤_;omega) (by show (QH.Cap w).length≤_;omega) ?_
  rw [List.length_append]
  simp only [List.length_cons,List.length_nil]
  omega
 refine Gets.ite (fun _=>?_) (fun _=>?_)
 ·refine .at a0 a1 fun w hw _=>?_
  obtain ⟨⟨w1,w2⟩,w3,w4,w5⟩:=bwi w hw
  refine .at (by omega) (by show (0:Int)<((QH.Res w).length:Int);omega) fun _ _ _=>fin _ _ (set_ _ ?_) h3
  refine ZuG (by show (QH.Parent w).length≤_;omega) (by show (List.set (QH.Res w) _ _).length≤_;rw [List.length_set];omega) (by show (QH.Cap w).length≤_;omega) (by show (QH.ZnH w).length≤_;omega)
 refine Gets.ite (fun _=>?_) (fun _=>?_)
 ·refine .at a0 a1 fun w hw _=>?_
  obtain ⟨⟨w1,w2⟩,w3,w4,w5⟩:=bwi w hw
  refine (Zf h3 3).bind fun r4 ⟨⟨b0,b1⟩,h4⟩=>?_
  refine .at b0 (by simp only [List.length_cons,List.length_nil];omega) fun _ _ _=>?_
  refine .at (by omega) (by show (0:Int)<((QH.Cap w).length:Int);omega) fun _ _ _=>fin _ _ (set_ _ ?_) h4
  refine ZuG (by show (QH.Parent w).length≤_;omega) (by show (QH.Res w).length≤_;omega) (by show (List.set (QH.Cap w) _ _).length≤_;rw [List.length_set];omega) (by show (QH.ZnH w).length≤_;omega)
 refine Gets.ite (fun _=>?_) (fun _=>?_)
 ·refine .at a0 a1 fun w hw _=>?_
  obtain ⟨⟨w1,w2⟩,w3,w4,w5⟩:=bwi w hw
  refine (Zf h3 5).bind fun r4 ⟨_,h4⟩=>?_
  have ew:Wq (((QH.Parent w).length:Int)-1)=((QH.Parent w).length:Int)-1:=XD (by omega) (by omega)
  refine .at (by show (0:Int)≤Wq (((QH.Parent w).length:Int)-1);omega) (by show Wq (((QH.Parent w).length:Int)-1)<((QH.Parent w).length:Int);omega) fun _ _ _=>fin _ _ (set_ _ ?_) h4
  refine ZuG (by show (List.set (QH.Parent w) _ _).length≤_;rw [List.length_set];omega) (by show (QH.Res w).length≤_;omega) (by show (QH.Cap w).length≤_;omega) (by show (QH.ZnH w).length≤_;omega)
 refine Gets.ite (fun _=>?_) (fun _=>?_)
 ·refine .at (by omega) (by show (0:Int)<((Zp.Vk (Zv.Design r1.1)).length:Int);have:=bd.p0;omega) fun p hp _=>?_
  obtain ⟨s1,s2,s3⟩:=Zrk bd.sm
  have hpd:=bd.port p hp
  unfold Zkb at hpd
  refine .ret ⟨⟨Zs0 bl (Ztr s1 s3 ?_) (smL (by show (Zv.ZlA r1.1).length≤_;omega) sw),fun _ _=>ZAn hdn rfl rfl⟩,h3⟩
  refine smL (by show (List.set (Zp.Vk (Zv.Design r1.1)) _ _).length≤_;rw [List.length_set];have:=bd.p1;omega) (Ze7 s2.2 ⟨smS (by show (Zah.Name p).length≤_;omega),trivial,trivial,trivial⟩)
 ·exact fin _ _ (smL (by show (Zv.ZlA r1.1).length≤_;omega) sw) h3
theorem Ztd (l:List Int) (h:l.length≤1048576):Zq7 l l=some true:=by
 unfold Zq7
 rw [if_pos rfl]
 refine ZgW (l:=l) (fun k=>((k:Int),())) (fun k x hx hk=>?_) ?_
 ·simp only [ZsJ,show (k:Int)<(l.length:Int) by omega,if_true,VU,hx,Bq,Zkd (show k≤1048576 by omega)]
 ·simp only [ZsJ,Int.lt_irrefl,if_false]
theorem ZyL (w:QH) (h:sm ZjY w):ZuM w w=some true:=by
 obtain ⟨a,b,c,d⟩:=Zv3 h
 unfold ZuM
 rw [Ztd _ (Zo9 a),Ztd _ (Zo9 b),Ztd _ (Zo9 c),Ztd _ (Zo9 d)]
 rfl
theorem Zyc (d:Zp) (h:sm ZdN d):ZtV d d=some true:=by
 obtain ⟨a,b,c⟩:=Zrk h
 have ha:=Zo9 a
 have hb:=Zo9 b
 have hc:=Zo9 c
 unfold ZtV
 rw [if_pos rfl,if_pos rfl,if_pos rfl]
 refine ZgW (l:=Zp.Instances d) (fun k=>((k:Int),())) (fun k x hx hk=>?_) ?_
 ·simp only [ZsM,show (k:Int)<((Zp.Instances d).length:Int) by omega,if_true,VU,hx,Bq,Ztd _ (Zo9 (ZuV (ZqC a hx)).2),Zkd (show k≤1048576 by omega)]
 simp only [ZsM,Int.lt_irrefl,if_false]
 refine ZgW (l:=Zp.Zbh d) (fun k=>((k:Int),())) (fun k x hx hk=>?_) ?_
 ·simp only [ZsL,show (k:Int)<((Zp.Zbh d).length:Int) by omega,if_true,VU,hx,Bq,Zkd (show k≤1048576 by omega)]
 simp only [ZsL,Int.lt_irrefl,if_false]
 refine ZgW (l:=Zp.Vk d) (fun k=>((k:Int),())) (fun k x hx hk=>?_) ?_
 ·simp only [ZsK,show (k:Int)<((Zp.Vk d).length:Int) by omega,if_true,VU,hx,Bq,decide_true,Bool.and_self,Zkd (show k≤1048576 by omega)]
 ·simp only [ZsK,Int.lt_irrefl,if_false]
theorem Zyt (b:Zv) (h:sm ZjX b):Zur b b=some true:=by
 obtain ⟨a,d,c⟩:=Zrd h
 have hc:=Zo9 c
 unfold Zur
 rw [Zyc _ d,Bq,if_pos rfl,if_pos rfl,if_pos rfl]
 refine ZgW (l:=Zv.ZlA b) (fun k=>((k:Int),())) (fun k x hx hk=>?_) ?_
 ·simp only [Ztc,show (k:Int)<((Zv.ZlA b).length:Int) by omega,if_true,VU,hx,Bq,ZyL _ (ZqC c hx),Zkd (show k≤1048576 by omega)]
 ·simp only [Ztc,Int.lt_irrefl,if_false]
theorem bytesD {code:List Int} (hb:bnd (.sl (.int .u8)) code):∀ x∈code,0≤x∧x≤255:=fun x hx=>hb.2 x hx
/-
  Plain laws: dice that follow from a code.
-/
theorem bits_mask (x:Int):0≤Go.bits .and .u64 x 16777215∧Go.bits .and .u64 x 16777215≤16777215:=by
 have e:Go.bits .and .u64 x 16777215=IntKind.u64.wrap (((BitVec.ofInt 64 x &&& BitVec.ofInt 64 16777215).toNat:Nat):Int):=rfl
 have h:(BitVec.ofInt 64 x &&& BitVec.ofInt 64 16777215).toNat≤16777215:=by
  rw [BitVec.toNat_and]
  exact Nat.and_le_right
 rw [e,IntWalk.u64_in _ ⟨by omega,by omega⟩]
 omega
structure ZDQ (d:ZhV):Prop where
 b:∀ x∈ZhV.b d,0≤x∧x≤255
 i:0≤ZhV.i d
theorem ZDI {code:List Int} (hc:∀ x∈code,0≤x∧x≤255) (hl:code.length≤4096) (seed:Int):Gets (ZCN code seed) ZDQ:=by
 unfold ZCN
 refine Gets.loop (fun v=>0≤v.1∧v.1≤4096) (fun v=>(4096-v.1).toNat) ⟨Int.le_refl _,by dsimp only;omega⟩ ?_
 rintro ⟨i,c,⟨⟩⟩ ⟨i0,i1⟩
 dsimp only at i0 i1
 show Gets (ZCG code i c) _
 unfold ZCG
 have en:Wq (i+1)=i+1:=XD (by omega) (by omega)
 rw [en]
 refine Gets.ite (fun hi=>?_) (fun _=>.ret (show ZDQ (code,(0:Int),c,()) from ⟨hc,Int.le_refl _⟩))
 exact .at i0 hi fun x _ _=>.ret ⟨⟨by dsimp only;omega,by dsimp only;omega⟩,by dsimp only;omega⟩
theorem ZDE {d:ZhV} (hd:ZDQ d) {n:Int} (hn:1≤n):Gets (ZCF d n) (fun r=>0≤r.1∧r.1<n):=by
 unfold ZCF
 obtain ⟨m0,m1⟩:=bits_mask (Int.fdiv (IntKind.wrap IntKind.u64 (IntKind.wrap IntKind.u64 (ZhV.h d*(6364136223846793005:Int))+(1442695040888963407:Int))) ((2:Int) ^ Min.min (Int.toNat (33:Int)) (IntKind.bits IntKind.u64)))
 generalize Go.bits .and .u64 (Int.fdiv (IntKind.wrap IntKind.u64 (IntKind.wrap IntKind.u64 (ZhV.h d*(6364136223846793005:Int))+(1442695040888963407:Int))) ((2:Int) ^ Min.min (Int.toNat (33:Int)) (IntKind.bits IntKind.u64))) 16777215=m at m0 m1
 have em:Wq m=m:=XD (by omega) (by omega)
 rw [em]
 refine Gets.ite (fun hi=>?_) (fun _=>?_)
 ·refine .at hd.i hi fun x hx _=>?_
  obtain ⟨b0,b1⟩:=hd.b x hx
  have ex:Wq x=x:=XD (by omega) (by omega)
  have es:Wq (m+x)=m+x:=XD (by omega) (by omega)
  rw [ex,es]
  exact .guard (by omega) (.ret ⟨Int.tmod_nonneg _ (by omega),Int.tmod_lt_of_pos _ (by omega)⟩)
 ·exact .guard (by omega) (.ret ⟨Int.tmod_nonneg _ (by omega),Int.tmod_lt_of_pos _ (by omega)⟩)
/-
  Plain laws: edits in a row, in two parts, and undone: the law FnEditList.
-/
inductive Run:Zv→List Zbk→Zv→List Zbk→Prop
 | nil (b:Zv):Run b [] b []
 | cons {b r r':Zv} {e f:Zbk} {l inv:List Zbk}:ZtQ b e→sm Zn2 e→Zpy e b=some r→ZpH e b=some f→Run r l r' inv→Run b (e::l) r' (f::inv)
theorem Run.ok {b r:Zv} {l inv:List Zbk} (h:Run b l r inv) (hb:ZqJ b):ZqJ r:=by
 induction h with
 | nil b=>exact hb
 | cons hC he ha hi _ ih =>
  obtain ⟨r0,a1,_,a3,_⟩:=ZzN hC he
  rw [ha] at a1
  injection a1 with a1
  subst a1
  exact ih a3
theorem Run.len {b r:Zv} {l inv:List Zbk} (h:Run b l r inv):inv.length=l.length:=by
 induction h with
 | nil b=>rfl
 | cons _ _ _ _ _ ih=>rw [List.length_cons,List.length_cons,ih]
theorem Run.append {a b c:Zv} {l1 l2 i1 i2:List Zbk} (h1:Run a l1 b i1) (h2:Run b l2 c i2):Run a (l1++l2) c (i1++i2):=by
 induction h1 with
 | nil b=>exact h2
 | cons hC he ha hi _ ih=>exact .cons hC he ha hi (ih h2)
theorem Run.split {b r:Zv} {l inv:List Zbk} (h:Run b l r inv):∀ k,∃ (m:Zv) (i1 i2:List Zbk),Run b (l.take k) m i1∧Run m (l.drop k) r i2:=by
 induction h with
 | nil b=>intro k;exact ⟨b,[],[],by rw [List.take_nil];exact .nil b,by rw [List.drop_nil];exact .nil b⟩
 | @cons b r r' e f l inv hC he ha hi hr ih =>
  intro k
  cases k with
  | zero=>exact ⟨b,[],f::inv,.nil b,.cons hC he ha hi hr⟩
  | succ k =>
   obtain ⟨m,i1,i2,a,c⟩:=ih k
   exact ⟨m,f::i1,i2,.cons hC he ha hi a,c⟩
theorem Run.undo {b r:Zv} {l inv:List Zbk} (h:Run b l r inv):∃ inv',Run r inv.reverse b inv':=by
 induction h with
 | nil b=>exact ⟨[],.nil b⟩
 | @cons b r r' e f l inv hC he ha hi hr ih =>
  obtain ⟨inv',h'⟩:=ih
  obtain ⟨r0,f0,u1,u2,u3,u4,u5,u6⟩:=Go.Proofs.YtnnbgbgapogckaaGreatDoor.undo hC he
  rw [ha] at u1
  injection u1 with u1
  subst u1
  rw [hi] at u2
  injection u2 with u2
  subst u2
  obtain ⟨g,hg,_⟩:=ZCI u5
  rw [List.reverse_cons]
  exact ⟨_,h'.append (.cons u5 u4 u6 hg (.nil b))⟩
abbrev sA (k:Nat) (back:List Zbk) (b:Zv):(List Zbk)×Int×(List QG)×(List Zz)×(List (List UInt8))×(List Zah)×(List QH)×(List QG)×(List Zz)×(List (List UInt8))×(List Zah)×(List QH)×Unit :=
 (back,(k:Int),[],[],[],[],[],ZaF.Cells (Zv.Library b),Zp.Instances (Zv.Design b),Zp.Zbh (Zv.Design b),Zp.Vk (Zv.Design b),Zv.ZlA b,())
abbrev sS (k:Nat) (b:Zv):Int×(List QG)×(List Zz)×(List (List UInt8))×(List Zah)×(List QH)×(List QG)×(List Zz)×(List (List UInt8))×(List Zah)×(List QH)×Unit :=
 ((k:Int),[],[],[],[],[],ZaF.Cells (Zv.Library b),Zp.Instances (Zv.Design b),Zp.Zbh (Zv.Design b),Zp.Vk (Zv.Design b),Zv.ZlA b,())
noncomputable abbrev lA (l:List Zbk):=ZA (fun (v:(List Zbk)×Int×(List QG)×(List Zz)×(List (List UInt8))×(List Zah)×(List QH)×(List QG)×(List Zz)×(List (List UInt8))×(List Zah)×(List QH)×Unit)=>ZCB l v.1 v.2.1 v.2.2.1 v.2.2.2.1 v.2.2.2.2.1 v.2.2.2.2.2.1 v.2.2.2.2.2.2.1 v.2.2.2.2.2.2.2.1 v.2.2.2.2.2.2.2.2.1 v.2.2.2.2.2.2.2.2.2.1 v.2.2.2.2.2.2.2.2.2.2.1 v.2.2.2.2.2.2.2.2.2.2.2.1)
noncomputable abbrev lS (l:List Zbk):=ZA (fun (v:Int×(List QG)×(List Zz)×(List (List UInt8))×(List Zah)×(List QH)×(List QG)×(List Zz)×(List (List UInt8))×(List Zah)×(List QH)×Unit)=>Zsa l v.1 v.2.1 v.2.2.1 v.2.2.2.1 v.2.2.2.2.1 v.2.2.2.2.2.1 v.2.2.2.2.2.2.1 v.2.2.2.2.2.2.2.1 v.2.2.2.2.2.2.2.2.1 v.2.2.2.2.2.2.2.2.2.1 v.2.2.2.2.2.2.2.2.2.2.1)
theorem ZDM {l:List Zbk} {k:Nat} {back:List Zbk} {b r:Zv} {e f:Zbk} (hx:l[k]?=some e) (h20:l.length≤20) (hb:back.length=k) (hC:ZtQ b e) (he:sm Zn2 e) (ha:Zpy e b=some r) (hi:ZpH e b=some f) :
  lA l (sA k back b)=lA l (sA (k+1) (back++[f]) r):=by
 have hlt:=(List.getElem?_eq_some_iff.1 hx).1
 have c1:ZsA e ((ZaF.Cells (Zv.Library b),()),(Zp.Instances (Zv.Design b),Zp.Zbh (Zv.Design b),Zp.Vk (Zv.Design b),()),Zv.ZlA b,())=some 0:=(ZzR hC he).1
 have v1:ZpH e ((ZaF.Cells (Zv.Library b),()),(Zp.Instances (Zv.Design b),Zp.Zbh (Zv.Design b),Zp.Vk (Zv.Design b),()),Zv.ZlA b,())=some f:=hi
 have r1:Zpy e ((ZaF.Cells (Zv.Library b),()),(Zp.Instances (Zv.Design b),Zp.Zbh (Zv.Design b),Zp.Vk (Zv.Design b),()),Zv.ZlA b,())=some r:=ha
 refine ZgA ?_
 simp only [ZCB]
 rw [if_pos (by omega),VU,hx,Bq,c1,Bq,if_pos rfl,v1,Bq,ZB (by rw [List.length_singleton];omega),r1,Bq,Zkd (show k≤1048576 by omega)]
theorem ZDN {l:List Zbk} {k:Nat} {b r:Zv} {e:Zbk} (hx:l[k]?=some e) (h20:l.length≤20) (hC:ZtQ b e) (he:sm Zn2 e) (ha:Zpy e b=some r):lS l (sS k b)=lS l (sS (k+1) r):=by
 have hlt:=(List.getElem?_eq_some_iff.1 hx).1
 have e2:ZsB ((ZaF.Cells (Zv.Library b),()),(Zp.Instances (Zv.Design b),Zp.Zbh (Zv.Design b),Zp.Vk (Zv.Design b),()),Zv.ZlA b,()) e=some (r,0):=by
  show ZsB b e=_
  obtain ⟨r0,a1,a2,_⟩:=ZzN hC he
  rw [ha] at a1
  injection a1 with a1
  subst a1
  unfold ZsB
  rw [(ZzR hC he).2,Bq,if_pos rfl,a2]
  rfl
 refine ZgA ?_
 simp only [Zsa]
 rw [if_pos (by omega),VU,hx,Bq,e2,Bq,if_pos rfl,Zkd (show k≤1048576 by omega)]
theorem ZDJ {b r:Zv} {l' inv:List Zbk} (h:Run b l' r inv):∀ (l:List Zbk) (k:Nat) (back:List Zbk),k≤l.length→l.drop k=l'→l.length≤20→back.length=k→lA l (sA k back b)=some (r,(back++inv).reverse,0,-1)∧lS l (sS k b)=some (r,0,-1):=by
 induction h with
 | nil b =>
  intro l k back hk hd h20 hb
  have hk2:k=l.length:=by
   have:=congrArg List.length hd
   rw [List.length_drop,List.length_nil] at this
   omega
  constructor
  ·refine Zct ?_
   simp only [ZCB]
   rw [if_neg (by omega),List.append_nil]
  ·refine Zct ?_
   simp only [Zsa]
   rw [if_neg (by omega)]
 | @cons b r r' e f l' inv hC he ha hi _ ih =>
  intro l k back hk hd h20 hb
  have hx:l[k]?=some e:=by
   have:=congrArg (fun z=>z[0]?) hd
   simpa using this
  have hlt:=(List.getElem?_eq_some_iff.1 hx).1
  have hd2:l.drop (k+1)=l':=by
   have:=congrArg List.tail hd
   simpa using this
  obtain ⟨i1,i2⟩:=ih l (k+1) (back++[f]) (by omega) hd2 h20 (by rw [List.length_append,List.length_singleton];omega)
  rw [ZDM hx h20 hb hC he ha hi,ZDN hx h20 hC he ha,i1,i2,List.append_assoc]
  exact ⟨rfl,rfl⟩
theorem ZDD {l:List Zbk} (hs:sm (.sl Zn2) l) (h20:l.length≤20):∀ (m k:Nat) (b:Zv) (back:List Zbk),k+m=l.length→ZqJ b→back.length=k→
  (∃ (c j:Int),c≠0∧lA l (sA k back b)=some (ZyF,[],c,j)∧lS l (sS k b)=some (ZyF,c,j))∨(∃ (r:Zv) (inv:List Zbk),Run b (l.drop k) r inv)
 | 0,k,b,back,hk,hB,hb=>.inr ⟨b,[],by rw [List.drop_eq_nil_of_le (by omega)];exact .nil b⟩
 | m+1,k,b,back,hk,hB,hb=>by
  have hlt:k<l.length:=by omega
  have hx:l[k]?=some l[k]:=List.getElem?_eq_getElem hlt
  have hdr:l.drop k=l[k]::l.drop (k+1):=List.drop_eq_getElem_cons hlt
  generalize l[k]=x at hx hdr
  have hxs:sm Zn2 x:=ZqC hs hx
  obtain ⟨c,c1,c2,c3⟩:=ZwJ hB x hxs
  have c1':ZsA x ((ZaF.Cells (Zv.Library b),()),(Zp.Instances (Zv.Design b),Zp.Zbh (Zv.Design b),Zp.Vk (Zv.Design b),()),Zv.ZlA b,())=some c:=c1
  by_cases hc:c=0
  ·have hC:=c3 hc
   obtain ⟨v,v1,v3⟩:=ZCI hC
   obtain ⟨r,r1,r2,r3,r4⟩:=ZzN hC hxs
   rw [ZDM hx h20 hb hC hxs r1 v1,ZDN hx h20 hC hxs r1,hdr]
   rcases ZDD hs h20 m (k+1) r (back++[v]) (by omega) r3 (by rw [List.length_append,List.length_singleton];omega) with q | ⟨r',inv,q⟩
   ·exact .inl q
   ·exact .inr ⟨r',v::inv,.cons hC hxs r1 v1 q⟩
  ·have e2:ZsB ((ZaF.Cells (Zv.Library b),()),(Zp.Instances (Zv.Design b),Zp.Zbh (Zv.Design b),Zp.Vk (Zv.Design b),()),Zv.ZlA b,()) x=some (ZyF,c):=by
    show ZsB b x=_
    unfold ZsB
    rw [c2,Bq,if_neg hc]
   refine .inl ⟨c,(k:Int),hc,Zct ?_,Zct ?_⟩
   ·simp only [ZCB]
    rw [if_pos (by omega),VU,hx,Bq,c1',Bq,if_neg hc]
   ·simp only [Zsa]
    rw [if_pos (by omega),VU,hx,Bq,e2,Bq,if_neg hc]
theorem ZDC {b r:Zv} {l inv:List Zbk} (hB:ZqJ b) (h20:l.length≤20) (h:Run b l r inv):ZCy b l=some (r,inv.reverse,0,-1)∧Ztf b l=some (r,0,-1):=by
 obtain ⟨g1,g2⟩:=ZDJ h l 0 [] (Nat.zero_le _) rfl h20 rfl
 unfold ZCy Ztf
 rw [Zua b hB.sm,Zrz b hB.sm,Bq,Bq,if_pos (ZcF hB.ok),if_pos (ZcF hB.ok),if_neg (by omega),if_neg (by omega),Zp4 b hB.sm,ZxG b hB.sm,Bq,Bq]
 exact ⟨g1,g2⟩
theorem ZDG (b:Zv) (l:List Zbk) (hb:sm ZjX b) (hl:sm (.sl Zn2) l) :
  (∃ (c j:Int),c≠0∧ZCy b l=some (ZyF,[],c,j)∧Ztf b l=some (ZyF,c,j))∨
  (∃ (r:Zv) (inv:List Zbk),ZqJ b∧l.length≤20∧Run b l r inv):=by
 by_cases hB:ZvC b
 ·by_cases h20:(20:Int)<(l.length:Int)
  ·refine .inl ⟨3,-1,by omega,?_,?_⟩
   ·unfold ZCy
    rw [Zua b hb,Bq,if_pos (ZcF hB),if_pos h20]
   ·unfold Ztf
    rw [Zrz b hb,Bq,if_pos (ZcF hB),if_pos h20]
  ·have hS:ZqJ b:=⟨hB,hb⟩
   rcases ZDD hl (by omega) l.length 0 b [] (by omega) hS rfl with ⟨c,j,q1,q2,q3⟩ | ⟨r,inv,q⟩
   ·refine .inl ⟨c,j,q1,?_,?_⟩
    ·unfold ZCy
     rw [Zua b hb,Bq,if_pos (ZcF hB),if_neg h20,Zp4 b hb,Bq]
     exact q2
    ·unfold Ztf
     rw [Zrz b hb,Bq,if_pos (ZcF hB),if_neg h20,ZxG b hb,Bq]
     exact q3
   ·exact .inr ⟨r,inv,hS,by omega,q⟩
 ·refine .inl ⟨1,-1,by omega,?_,?_⟩
  ·unfold ZCy
   rw [Zua b hb,Bq,if_neg (fun h=>hB ((Zgv _).1 h))]
  ·unfold Ztf
   rw [Zrz b hb,Bq,if_neg (fun h=>hB ((Zgv _).1 h))]
theorem ZCE {b r:Zv} {l inv:List Zbk} {c j:Int} (h:ZCy b l=some (r,inv,c,j)):ZCA b l=some (r,c,j):=by
 unfold ZCA
 rw [h]
 rfl
theorem ZDq {code:List Int} (hc:∀ x∈code,0≤x∧x≤255) (hl:code.length≤4096):Gets (ZCC code) (fun r=>Zyx r.1∧sm (.sl Zn2) r.2):=by
 unfold ZCC
 refine (Zjd hc hl).bind fun s hs=>?_
 refine (Zzj hs).bind fun r0 ⟨hb,h0⟩=>?_
 refine (Zy9 h0 hb (most:=4) (by omega) (by omega)).bind fun r1 ⟨⟨hl1,hs1⟩,h1⟩=>?_
 refine (Zf h1 8).bind fun r2 ⟨_,h2⟩=>?_
 have same:Gets (some (r0.1,r1.1)) (fun r:Zv×List Zbk=>Zyx r.1∧sm (.sl Zn2) r.2):=.ret ⟨hb,smL (by dsimp only;omega) hs1⟩
 refine Gets.ite (fun _=>?_) (fun _=>Gets.ite (fun _=>?_) (fun _=>same))
 ·refine (Zxf h2 hb).bind fun r3 ⟨he,_⟩=>?_
  refine .guard (by simp only [List.length_cons,List.length_nil];omega) (.ret ⟨hb,smL ?_ (Yi hs1 he)⟩)
  show (r1.1++[r3.1]).length≤_
  rw [List.length_append,List.length_singleton]
  omega
 ·refine (Zf h2 5).bind fun r3 _=>?_
  refine Gets.ite (fun _=>?_) (fun _=>same)
  refine .ret ⟨hb,smL ?_ (fun e he=>?_)⟩
  ·show (List.replicate _ _).length≤_
   rw [List.length_replicate]
   decide
  ·rw [List.eq_of_mem_replicate he]
   exact Zxy Zv4 Zvb
theorem ZCM (code:List Int) (hb:bnd (.sl (.int .u8)) code):ZCD code=some true:=by
 unfold ZCD ZbE
 rw [Bq]
 by_cases hbig:decide ((4096:Int)<(code.length:Int))=true
 ·rw [if_pos hbig]
 rw [if_neg hbig]
 have hlen:code.length≤4096:=by
  simp only [decide_eq_true_eq] at hbig
  omega
 obtain ⟨⟨b,l⟩,hd,hbE,hls⟩:=ZDq (bytesD hb) hlen
 have hls:sm (.sl Zn2) l:=hls
 have hbE:Zyx b:=hbE
 rw [hd,Bq]
 dsimp only
 rcases ZDG b l hbE.1 hls with ⟨c,j,hc,q1,q2⟩ | ⟨r,inv,hB,h20,hr⟩
 ·have eI:ZCz b l=some ([],c):=by
   unfold ZCz
   rw [q1]
   rfl
  rw [ZCE q1,Bq,eI,Bq,q2,Bq,if_pos rfl,if_pos rfl,if_pos rfl,if_neg hc]
  rfl
 ·obtain ⟨q1,q2⟩:=ZDC hB h20 hr
  have hR:=hr.ok hB
  have eI:ZCz b l=some (inv.reverse,0):=by
   unfold ZCz
   rw [q1]
   rfl
  obtain ⟨d,hd1,hd2⟩:=ZDI (bytesD hb) hlen 613
  have en:Wq ((l.length:Int)+1)=(l.length:Int)+1:=XD (by omega) (by omega)
  obtain ⟨k,hk1,hk2,hk3⟩:=ZDE hd2 (n:=(l.length:Int)+1) (by omega)
  obtain ⟨m,i1,i2,s1,s2⟩:=hr.split k.1.toNat
  have hM:=s1.ok hB
  obtain ⟨inv',hu⟩:=hr.undo
  have g1:=ZCE (ZDC hB (by rw [List.length_take];omega) s1).1
  have g2:=ZCE (ZDC hM (by rw [List.length_drop];omega) s2).1
  have g3:=ZCE (ZDC hR (by rw [List.length_reverse,hr.len];exact h20) hu).1
  rw [ZCE q1,Bq,eI,Bq,q2,Bq,if_pos rfl,if_pos rfl,if_pos rfl,if_pos rfl,hd1,Bq,en,hk1,Bq,ZB hk2,ZB (by omega)]
  have t1:List.take (Int.toNat k.fst-Int.toNat 0) (List.drop (Int.toNat 0) l)=l.take k.1.toNat:=by
   rw [Int.toNat_zero,Nat.sub_zero,List.drop_zero]
  have t2:List.take (Int.toNat (l.length:Int)-Int.toNat k.fst) (List.drop (Int.toNat k.fst) l)=l.drop k.1.toNat:=by
   rw [Int.toNat_natCast]
   exact List.take_of_length_le (by rw [List.length_drop];exact Nat.le_refl _)
  rw [t1,t2,g1,Bq,ZB (Int.le_refl _)]
  dsimp only
  rw [g2,Bq,g3,Bq,if_pos rfl,if_pos rfl,if_pos rfl,Zyt r hR.sm,Bq,if_pos rfl,Zyt b hB.sm,Bq,if_pos rfl]
  refine congrArg some (decide_eq_true ?_)
  rw [List.length_reverse,hr.len]
end Go.Proofs.YtnnbgbgapogckaaGreatDoor
