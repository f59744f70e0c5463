/-
  Plain laws: lines of clocks; a loop that hangs texts on a text.
-/
import Derived.Test.YtepbknolmhmipaaGreatDoorLC
import Derived.Test.YtepbknolmhmipaaGreatDoorLA
namespace Go.Proofs.YtepbknolmhmipaaGreatDoor
set_option linter.unusedVariables false
set_option linter.unusedSimpArgs false
open Go Go.Sx
theorem Zss {l:List Zc} {k:Nat} {c:Zc} (h:Zdm l k c=true) (hk:(k:Int)<=1000000) :
  (NumIn (Zc.Yn c)/\NumIn (Zc.YK c)/\NumIn (Zc.Y8 c))/\((Zc.Source c=-1/\NumIn (Zc.VQ c)/\NumIn (Zc.Zae c)/\NumIn (Zc.Zad c))\/(0<=Zc.Source c/\Zc.Source c<(k:Int)/\NumIn (Zc.Divide c))):=by
 have hsrc:=Zk1 h hk;unfold Zdm Zgn at h;simp only[Bool.and_eq_true,decide_eq_true_eq,Y7] at h;obtain ⟨⟨⟨⟨⟨p1,p2⟩,p3⟩,p4⟩,p5,p6⟩,h⟩:=h;refine ⟨⟨⟨by omega,by omega⟩,⟨by omega,by omega⟩,⟨by omega,by omega⟩⟩,?_⟩;by_cases hs:Zc.Source c=-1
 ·rw[if_pos hs] at h
  left;unfold Zi8 at h;simp only[Bool.and_eq_true,decide_eq_true_eq,Y7] at h;obtain ⟨⟨⟨⟨⟨⟨q1,q2⟩,q3,q4⟩,q5,q6⟩,_⟩,_⟩,_⟩:=h;rw[Zar (by omega) (by omega)] at q4 q6;exact ⟨hs,⟨by omega,by omega⟩,⟨by omega,by omega⟩,⟨by omega,by omega⟩⟩
 ·rw[if_neg hs] at h
  right;have:=hsrc.resolve_left hs;unfold ZsG at h;simp only[Bool.and_eq_true,decide_eq_true_eq,Y7] at h;obtain ⟨⟨⟨⟨⟨_,d1,d2⟩,_⟩,_⟩,_⟩,_⟩:=h;exact ⟨this.1,this.2,⟨by omega,by omega⟩⟩
theorem ZuT {x y z:Int} (h1:NumIn x) (h2:NumIn y) (h3:NumIn z):YH [x,y,z]=some (Zfj [x,y,z])/\(Zfj [x,y,z]).length<=36:=by
 have h:∀ n∈[x,y,z],NumIn n:=by
  intro n hn;simp only[List.mem_cons,List.not_mem_nil,or_false] at hn;rcases hn with rfl | rfl | rfl<;>assumption
 exact ⟨ZjS (by simp) h,ZgF h⟩
noncomputable def Zuo (b:Zj) (l:List Zc) (c:Zc):List UInt8:=(Vd b l c).getD []
theorem Zf9 {b:Zj} (h:ZdN b) {v:Z0} (hv:Z0.Zw v=Zw (Zj.Design b)) (hb:Z0.Block v=b) {l:List Zc} (hC:ZcS l) {k:Nat} {c:Zc} (hc:l[k]?=some c) (hp:Zc.Place c<((Zw (Zj.Design b)).length:Int)) :
  Vd b l c=some (Zuo b l c)/\Xi v l c=some (Zuo b l c++[10])/\(Zuo b l c).length<=1000:=by
 have hkl:k<l.length:=(List.getElem?_eq_some_iff.1 hc).1;have h6:=hC.1;have hp0:=hC.place (List.mem_of_getElem? hc);obtain ⟨ep,_,_,lp⟩:=ZbZ h hp0 hp;have ip:=Zgm h hv hb hp0 hp;have ln:=Zfi (ZeK (f:=Zc.Name) hC.2.2 hc);obtain ⟨⟨n1,n2,n3⟩,hcase⟩:=Zss (hC.2.1 k c (by omega) hc) (by omega);obtain ⟨e1,l1⟩:=ZuT n1 n2 n3;have key:∃ t,Vd b l c=some t/\Xi v l c=some (t++[10])/\t.length<=1000:=by
  rcases hcase with ⟨hs,m1,m2,m3⟩ | ⟨hs0,hs1,hd⟩
  ·obtain ⟨e2,l2⟩:=ZuT m1 m2 m3
   refine ⟨[99,108,111,99,107,32]++Zc.Name c++[32]++Jm b (Zc.Place c)++Zfj [Zc.VQ c,Zc.Zae c,Zc.Zad c]++Zfj [Zc.Yn c,Zc.YK c,Zc.Y8 c],?_,?_,?_⟩
   ·unfold Vd
    rw[e1,Bq,if_pos (by omega),Zd (by simp only[List.length_append,List.length_cons,List.length_nil];omega),Zd (by simp only[List.length_append,List.length_cons,List.length_nil];omega),ep,Bq,Zd (by simp only[List.length_append,List.length_cons,List.length_nil];omega),e2,Bq,Zd (by simp only[List.length_append,List.length_cons,List.length_nil];omega),Zd (by simp only[List.length_append,List.length_cons,List.length_nil];omega)]
   ·unfold Xi
    rw[if_pos (by omega),ip,Bq,(ZjP (by simp) (by
     intro x hx;simp only[List.mem_cons,List.not_mem_nil,or_false] at hx;rcases hx with rfl | rfl | rfl
     ·decide
     ·omega
     ·omega) (by simp) (by
     intro x hx;simp only[List.mem_cons,List.not_mem_nil,or_false] at hx;rcases hx with rfl | rfl | rfl | rfl | rfl | rfl<;>assumption)).1,Bq]
    congr 1;simp[Zii,Go.Lib.join_cons,Go.Lib.joinTail,Zfj]
   ·simp only[List.length_append,List.length_cons,List.length_nil];omega
  ·obtain ⟨x,hx⟩:∃ x,l[(Zc.Source c).toNat]?=some x:=⟨_,List.getElem?_eq_getElem (by omega)⟩
   have hx1:atI l (Zc.Source c)=some x:=Zbc hs0 hx;have lx:=Zfi (ZeK (f:=Zc.Name) hC.2.2 hx);have ld:=ZiP hd;have e2:YH [Zc.Divide c]=some (Zfj [Zc.Divide c]):=ZjS (by simp) (by
    intro n hn;simp only[List.mem_cons,List.not_mem_nil,or_false] at hn;subst hn;exact hd)
   have l2:(Zfj [Zc.Divide c]).length<=12:=ZgF (l:=[Zc.Divide c]) (by
    intro n hn;simp only[List.mem_cons,List.not_mem_nil,or_false] at hn;subst hn;exact hd)
   by_cases hI:Zc.Zex c=true
   ·refine ⟨[103,101,110,101,114,97,116,101,100,32]++Zc.Name c++[32]++Jm b (Zc.Place c)++[32]++Zc.Name x++Zfj [Zc.Divide c]++[32,105,110,118,101,114,116]++Zfj [Zc.Yn c,Zc.YK c,Zc.Y8 c],?_,?_,?_⟩
    ·unfold Vd
     rw[e1,Bq,if_neg (by omega),if_pos hI,Zd (by simp only[List.length_append,List.length_cons,List.length_nil];omega),Zd (by simp only[List.length_append,List.length_cons,List.length_nil];omega),hx1,Bq,ep,Bq,Zd (by simp only[List.length_append,List.length_cons,List.length_nil];omega),Zd (by simp only[List.length_append,List.length_cons,List.length_nil];omega),Zd (by simp only[List.length_append,List.length_cons,List.length_nil];omega),e2,Bq,Zd (by simp only[List.length_append,List.length_cons,List.length_nil];omega),Zd (by simp only[List.length_append,List.length_cons,List.length_nil];omega),Zd (by simp only[List.length_append,List.length_cons,List.length_nil];omega)]
    ·unfold Xi
     rw[if_neg (by omega),if_pos hI,hx1,Bq,ip,Bq,ZgC hd,Bq,(ZjP (by simp) (by
      intro y hy;simp only[List.mem_cons,List.not_mem_nil,or_false] at hy;rcases hy with rfl | rfl | rfl | rfl | rfl | rfl
      ·decide
      ·omega
      ·omega
      ·omega
      ·omega
      ·decide) (by simp) (by
      intro x hx;simp only[List.mem_cons,List.not_mem_nil,or_false] at hx;rcases hx with rfl | rfl | rfl<;>assumption)).1,Bq]
     congr 1;simp[Zii,Go.Lib.join_cons,Go.Lib.joinTail,Zfj]
    ·simp only[List.length_append,List.length_cons,List.length_nil];omega
   ·refine ⟨[103,101,110,101,114,97,116,101,100,32]++Zc.Name c++[32]++Jm b (Zc.Place c)++[32]++Zc.Name x++Zfj [Zc.Divide c]++[32,112,108,97,105,110]++Zfj [Zc.Yn c,Zc.YK c,Zc.Y8 c],?_,?_,?_⟩
    ·unfold Vd
     rw[e1,Bq,if_neg (by omega),if_neg hI,Zd (by simp only[List.length_append,List.length_cons,List.length_nil];omega),Zd (by simp only[List.length_append,List.length_cons,List.length_nil];omega),hx1,Bq,ep,Bq,Zd (by simp only[List.length_append,List.length_cons,List.length_nil];omega),Zd (by simp only[List.length_append,List.length_cons,List.length_nil];omega),Zd (by simp only[List.length_append,List.length_cons,List.length_nil];omega),e2,Bq,Zd (by simp only[List.length_append,List.length_cons,List.length_nil];omega),Zd (by simp only[List.length_append,List.length_cons,List.length_nil];omega),Zd (by simp only[List.length_append,List.length_cons,List.length_nil];omega)]
    ·unfold Xi
     rw[if_neg (by omega),if_neg hI,hx1,Bq,ip,Bq,ZgC hd,Bq,(ZjP (by simp) (by
      intro y hy;simp only[List.mem_cons,List.not_mem_nil,or_false] at hy;rcases hy with rfl | rfl | rfl | rfl | rfl | rfl
      ·decide
      ·omega
      ·omega
      ·omega
      ·omega
      ·decide) (by simp) (by
      intro x hx;simp only[List.mem_cons,List.not_mem_nil,or_false] at hx;rcases hx with rfl | rfl | rfl<;>assumption)).1,Bq]
     congr 1;simp[Zii,Go.Lib.join_cons,Go.Lib.joinTail,Zfj]
    ·simp only[List.length_append,List.length_cons,List.length_nil];omega
 obtain ⟨t,q1,q2,q3⟩:=key;have e0:Zuo b l c=t:=by unfold Zuo;rw[q1];rfl
 rw[e0];exact ⟨q1,q2,q3⟩
def ZeU {α:Type} (f:α->List UInt8):List α->List UInt8
 | []=>[]
 | x::r=>f x++ZeU f r
theorem Zk0 {α:Type} (f:α->List UInt8):∀ x y:List α,ZeU f (x++y)=ZeU f x++ZeU f y
 | [],_=>rfl
 | n::a,y=>by
  show f n++ZeU f (a++y)=f n++ZeU f a++ZeU f y;rw[Zk0 f a y];simp
theorem Zsp {α:Type} (f:α->List UInt8) (x:α):ZeU f [x]=f x:=by
 show f x++[]=_;simp
theorem Znf {α:Type} {f:α->List UInt8} {c:Nat}:∀ {l:List α},(∀ x∈l,(f x).length<=c)->(ZeU f l).length<=c*l.length
 | [],_=>Nat.zero_le _
 | n::r,h=>by
  have h1:=h n (by simp);have h2:=Znf (l:=r) λx hx=>h x (List.mem_cons_of_mem _ hx);show (f n++ZeU f r).length<=_;simp only[List.length_append,List.length_cons,Nat.mul_add,Nat.mul_one];omega
theorem Zcr {α ρ:Type} {l:List α} (f:α->List UInt8) (c:Nat) (R:ρ) {step:List UInt8×Int×Unit->Option ((List UInt8×Int×Unit) ⊕ ρ)} {s:List UInt8} (hf:∀ x∈l,(f x).length<=c)
  (hs:∀ (k:Nat) (x:α) (u:List UInt8),l[k]?=some x->k<l.length->u.length<=s.length+c*l.length->step (u,((k:Nat):Int),())=some (.inl (u++f x,((k+1:Nat):Int),())))
  (hx:(s++ZeU f l).length<=s.length+c*l.length->step (s++ZeU f l,((l.length:Nat):Int),())=some (.inr R)):Zq step (s,(0:Int),())=some R:=by
 refine Yr l.length (λk u=>u=(s++ZeU f (l.take k),(k:Int),())) _ (by simp[ZeU]) ?_ ?_
 ·rintro k _ hk rfl
  left;have hx:l[k]?=some l[k]:=List.getElem?_eq_getElem hk;generalize l[k]=x at hx;have h1:=Znf (l:=l.take k) λn hn=>hf n (List.mem_of_mem_take hn);have h2:c*(l.take k).length<=c*l.length:=Nat.mul_le_mul_left _ (by rw[List.length_take];omega);refine ⟨_,hs k x _ hx hk (by rw[List.length_append];omega),?_⟩;rw[Yy hx,Zk0,Zsp];simp
 ·rintro _ rfl
  have h1:=Znf hf;rw[List.take_length];exact hx (by rw[List.length_append];omega)
theorem ZrH {α:Type} {f:α->List UInt8} {l:List α} (h:X6 (l.map f) l.length) {x:α} (hx:x∈l):QL (f x)=true:=by
 obtain ⟨k,hk⟩:=List.mem_iff_getElem?.1 hx;exact ZeK h hk
theorem Zo6 {l:List Int} (hl:l.length<=10) (h:∀ n∈l,NumIn n):YH l=some (Zfj l)/\(Zfj l).length<=120:=by
 have:=ZgF h;exact ⟨ZjS (by omega) h,by omega⟩
noncomputable def Zuq (w:List UInt8) (b:Zj) (cl:List Zc) (ns:Zh->List Int) (x:Zh):List UInt8:=Zii [w,Jm b (Zh.Place x),((atI cl (Zh.Clock x)).map Zc.Name).getD []] (ns x)
theorem ZmT {b:Zj} {cl:List Zc} (hC:ZcS cl) {drv:Bool} {l:List Zh} {k:Nat} {x:Zh} (hx:Zf1 (Zw (Zj.Design b)) (cl.length:Int) drv l k x) :
  Zts b (Zh.Place x)/\(∃ c,atI cl (Zh.Clock x)=some c/\(Zc.Name c).length<=8)/\NumIn (Yb.Early (Zh.Delay x))/\NumIn (Yb.Late (Zh.Delay x))/\NumIn (Yb.Early (Zh.Za2 x))/\NumIn (Yb.Late (Zh.Za2 x)):=by
 obtain ⟨⟨a1,a2⟩,_,_,⟨c1,c2⟩,⟨d1,d2,d3⟩,⟨s1,s2,s3⟩,_⟩:=hx;obtain ⟨c,hc,hm⟩:=ZkY c1 (show Zh.Clock x<(cl.length:Int) by omega);exact ⟨⟨a1,by omega⟩,⟨c,hc,Zfi (ZrH (f:=Zc.Name) hC.2.2 hm)⟩,⟨by omega,by omega⟩,⟨by omega,by omega⟩,⟨by omega,by omega⟩,⟨by omega,by omega⟩⟩
theorem ZoQ {w:List UInt8} {b:Zj} {cl:List Zc} {ns:Zh->List Int} {x:Zh} {c:Zc} (hc:atI cl (Zh.Clock x)=some c):Zuq w b cl ns x=Zii [w,Jm b (Zh.Place x),Zc.Name c] (ns x):=by
 unfold Zuq;rw[hc];rfl
def Zrv (x:Zh):List Int:=[Yb.Early (Zh.Delay x),Yb.Late (Zh.Delay x),Yb.Early (Zh.Za2 x),Yb.Late (Zh.Za2 x)]
def ZlT (x:Zh):List Int:=[Yb.Early (Zh.Delay x),Yb.Late (Zh.Delay x)]
def ZoL (c:Zm):List UInt8:=Zii [[99,111,114,110,101,114],Zm.Name c] [Zm.Xq c,Zm.Qn c,Zm.XK c,Zm.QG c]
noncomputable def exT (b:Zj) (e:Ze):List UInt8:=Zii [[101,120,99,101,112,116],ZsD b e] []
noncomputable def inT (b:Zj) (cl:List Zc):Zh->List UInt8:=Zuq [105,110,112,117,116] b cl Zrv
noncomputable def outT (b:Zj) (cl:List Zc):Zh->List UInt8:=Zuq [111,117,116,112,117,116] b cl ZlT
noncomputable def clT (b:Zj) (cl:List Zc) (c:Zc):List UInt8:=Zuo b cl c++[10]
theorem ZkM {c:Zm} (h:ZdO c):Vw [[99,111,114,110,101,114],Zm.Name c] [Zm.Xq c,Zm.Qn c,Zm.XK c,Zm.QG c]=some (ZoL c)/\(ZoL c).length<=11000/\(∀ n∈[Zm.Xq c,Zm.Qn c,Zm.XK c,Zm.QG c],NumIn n)/\(Zm.Name c).length<=8:=by
 obtain ⟨h0,⟨h1,h2,h3⟩,⟨h4,h5,h6⟩⟩:=h;have hl:=Zfi h0;have hN:∀ n∈[Zm.Xq c,Zm.Qn c,Zm.XK c,Zm.QG c],NumIn n:=by
  intro n hn;simp only[List.mem_cons,List.not_mem_nil,or_false] at hn;rcases hn with rfl | rfl | rfl | rfl<;>exact ⟨by omega,by omega⟩
 obtain ⟨q1,q2⟩:=ZjP (words:=[[99,111,114,110,101,114],Zm.Name c]) (nums:=[Zm.Xq c,Zm.Qn c,Zm.XK c,Zm.QG c]) (by simp) (by
  intro x hx;simp only[List.mem_cons,List.not_mem_nil,or_false] at hx;rcases hx with rfl | rfl
  ·decide
  ·omega) (by simp) hN
 exact ⟨q1,q2,hN,hl⟩
theorem Zpp {s:Zo} (hC:Zew (Zo.X5 s)) {u:List UInt8} (hu:u.length<=1000000000000) :
  Zq (λv=>XV s v.1 v.2.1) (u,(0:Int),())=some (.inr (.inr (.inr (.inr (u++ZeU ZoL (Zo.X5 s))))))/\
  Zq (λv=>Jp s v.1 v.2.1) (u,(0:Int),())=some (.inr (.inr (.inr (.inr (u++ZeU ZoL (Zo.X5 s)))))):=by
 have h4:=hC.1;refine ⟨Zcr ZoL 11000 _ (λx hx=>(ZkM (hC.2.1 x hx)).2.1) (λk x u' hx hk hlen=>?_) (λ_=>?_),Zcr ZoL 11000 _ (λx hx=>(ZkM (hC.2.1 x hx)).2.1) (λk x u' hx hk hlen=>?_) (λ_=>?_)⟩
 ·obtain ⟨q1,q2,_⟩:=ZkM (hC.2.1 x (List.mem_of_getElem? hx))
  dsimp only;unfold XV;rw[if_pos (by omega),Zu,hx,Bq,q1,Bq,Zd (by omega),Zar (by omega) (by omega)];rfl
 ·dsimp only
  unfold XV;rw[if_neg (by omega)]
 ·obtain ⟨_,q2,q3,q4⟩:=ZkM (hC.2.1 x (List.mem_of_getElem? hx))
  obtain ⟨n1,n2⟩:=Zo6 (by simp) q3;dsimp only;unfold Jp;rw[if_pos (by omega),Zu,hx,Bq,Zd (by simp only[List.length_append,List.length_cons,List.length_nil];omega),Zd (by simp only[List.length_append,List.length_cons,List.length_nil];omega),n1,Bq,Zd (by simp only[List.length_append,List.length_cons,List.length_nil];omega),Zd (by simp only[List.length_append,List.length_cons,List.length_nil];omega),Zar (by omega) (by omega)];have e:u'++[(99:UInt8),(111:UInt8),(114:UInt8),(110:UInt8),(101:UInt8),(114:UInt8),(32:UInt8)]++Zm.Name x++Zfj [Zm.Xq x,Zm.Qn x,Zm.XK x,Zm.QG x]++[(10:UInt8)]=u'++ZoL x:=by
   simp[ZoL,Zii,Go.Lib.join_cons,Go.Lib.joinTail]
  rw[e];rfl
 ·dsimp only
  unfold Jp;rw[if_neg (by omega)]
theorem ZoP {b:Zj} (h:ZdN b) {v:Z0} (hv:Z0.Zw v=Zw (Zj.Design b)) (hb:Z0.Block v=b) {e:Ze} (hs:sm Z4 e) (he:Ziw (Zw (Zj.Design b)).length e) :
  Vw [[101,120,99,101,112,116],ZsD b e] ([]:List Int)=some (exT b e)/\(exT b e).length<=11000:=by
 obtain ⟨_,_,l⟩:=Zjq h hv hb hs he;exact ZjP (words:=[[101,120,99,101,112,116],ZsD b e]) (nums:=[]) (by simp) (by
  intro x hx;simp only[List.mem_cons,List.not_mem_nil,or_false] at hx;rcases hx with rfl | rfl
  ·decide
  ·omega) (by simp) (by simp)
theorem Zrj {b:Zj} (h:ZdN b) {v:Z0} (hv:Z0.Zw v=Zw (Zj.Design b)) (hb:Z0.Block v=b) {s:Zo} (hs:sm Vh s) (hS:Znb (Zw (Zj.Design b)) s) {u:List UInt8} (hu:u.length<=100000000000) :
  Zq (λu=>XW v s u.1 u.2.1) (u,(0:Int),())=some (.inr (.inr (.inr (u++ZeU (exT b) (Zo.Exceptions s)++ZeU ZoL (Zo.X5 s)))))/\
  Zq (λu=>Jq b s u.1 u.2.1) (u,(0:Int),())=some (.inr (.inr (.inr (u++ZeU (exT b) (Zo.Exceptions s)++ZeU ZoL (Zo.X5 s))))):=by
 obtain ⟨_,_,_,a4,_⟩:=Zl5 hs;obtain ⟨_,_,_,_,h6,hE,hC⟩:=hS;refine ⟨Zcr (exT b) 11000 _ (λx hx=>(ZoP h hv hb (Zgr a4 hx) (hE x hx)).2) (λk x u' hx hk hlen=>?_) (λhlen=>?_),Zcr (exT b) 11000 _ (λx hx=>(ZoP h hv hb (Zgr a4 hx) (hE x hx)).2) (λk x u' hx hk hlen=>?_) (λhlen=>?_)⟩
 ·have hm:=List.mem_of_getElem? hx
  obtain ⟨q1,q2⟩:=ZoP h hv hb (Zgr a4 hm) (hE x hm);obtain ⟨_,e2,_⟩:=Zjq h hv hb (Zgr a4 hm) (hE x hm);dsimp only;unfold XW;rw[if_pos (by omega),Zu,hx,Bq,e2,Bq,q1,Bq,Zd (by omega),Zar (by omega) (by omega)];rfl
 ·dsimp only
  unfold XW;rw[if_neg (by omega)];exact (Zpp hC (by omega)).1
 ·have hm:=List.mem_of_getElem? hx
  obtain ⟨e1,_,e3⟩:=Zjq h hv hb (Zgr a4 hm) (hE x hm);dsimp only;unfold Jq;rw[if_pos (by omega),Zd (by simp only[List.length_append,List.length_cons,List.length_nil];omega),Zu,hx,Bq,e1,Bq,Zd (by simp only[List.length_append,List.length_cons,List.length_nil];omega),Zd (by simp only[List.length_append,List.length_cons,List.length_nil];omega),Zar (by omega) (by omega)];have e:u'++[(101:UInt8),(120:UInt8),(99:UInt8),(101:UInt8),(112:UInt8),(116:UInt8),(32:UInt8)]++ZsD b x++[(10:UInt8)]=u'++exT b x:=by
   simp[exT,Zii,Go.Lib.join_cons,Go.Lib.joinTail,Zfj]
  rw[e];rfl
 ·dsimp only
  unfold Jq;rw[if_neg (by omega)];exact (Zpp hC (by omega)).2
theorem ZkO {b:Zj} (h:ZdN b) {cl:List Zc} {w:List UInt8} (hw:w.length<=10) {ns:Zh->List Int} {x:Zh} (hp:Zts b (Zh.Place x)) {c:Zc} (hc:atI cl (Zh.Clock x)=some c) (hn:(Zc.Name c).length<=8) (hl:(ns x).length<=10) (hN:∀ n∈ns x,NumIn n) :
  Vw [w,Jm b (Zh.Place x),Zc.Name c] (ns x)=some (Zuq w b cl ns x)/\(Zuq w b cl ns x).length<=11000:=by
 have:=hp.len h;rw[ZoQ hc];exact ZjP (by simp) (by
  intro y hy;simp only[List.mem_cons,List.not_mem_nil,or_false] at hy;rcases hy with rfl | rfl | rfl<;>omega) hl hN
theorem Zlp {b:Zj} {cl:List Zc} (hC:ZcS cl) {drv:Bool} {l:List Zh} {k:Nat} {x:Zh} (hx:Zf1 (Zw (Zj.Design b)) (cl.length:Int) drv l k x):(∀ n∈Zrv x,NumIn n)/\(∀ n∈ZlT x,NumIn n):=by
 obtain ⟨_,_,n1,n2,n3,n4⟩:=ZmT hC hx;refine ⟨?_,?_⟩
 ·intro n hn
  unfold Zrv at hn;simp only[List.mem_cons,List.not_mem_nil,or_false] at hn;rcases hn with rfl | rfl | rfl | rfl<;>assumption
 ·intro n hn
  unfold ZlT at hn;simp only[List.mem_cons,List.not_mem_nil,or_false] at hn;rcases hn with rfl | rfl<;>assumption
theorem ZnE {b:Zj} (h:ZdN b) {cl:List Zc} (hC:ZcS cl) {drv:Bool} {l:List Zh} (hE:ZfB (Zw (Zj.Design b)) (cl.length:Int) drv l) {x:Zh} (hx:x∈l):(outT b cl x).length<=11000/\(inT b cl x).length<=11000:=by
 obtain ⟨k,hk⟩:=List.mem_iff_getElem?.1 hx;obtain ⟨hp,⟨c,hc,hn⟩,_⟩:=ZmT hC (hE k x hk);obtain ⟨i1,i2⟩:=Zlp hC (hE k x hk);exact ⟨(ZkO h (by decide) hp hc hn (by simp[ZlT]) i2).2,(ZkO h (by decide) hp hc hn (by simp[Zrv]) i1).2⟩
theorem ZpY {b:Zj} (h:ZdN b) {v:Z0} (hv:Z0.Zw v=Zw (Zj.Design b)) (hb:Z0.Block v=b) {s:Zo} (hs:sm Vh s) (hS:Znb (Zw (Zj.Design b)) s) {u:List UInt8} (hu:u.length<=30000000000) :
  Zq (λu=>XY v s u.1 u.2.1) (u,(0:Int),())=some (.inr (.inr (u++ZeU (outT b (Zo.Yk s)) (Zo.Vp s)++ZeU (exT b) (Zo.Exceptions s)++ZeU ZoL (Zo.X5 s))))/\
  Zq (λu=>Jr b s u.1 u.2.1) (u,(0:Int),())=some (.inr (.inr (u++ZeU (outT b (Zo.Yk s)) (Zo.Vp s)++ZeU (exT b) (Zo.Exceptions s)++ZeU ZoL (Zo.X5 s)))):=by
 obtain ⟨_,_,a3,_,_⟩:=Zl5 hs;have hsm:=Zv a3;obtain ⟨hC,_,_,hO,_⟩:=id hS;refine ⟨Zcr (outT b (Zo.Yk s)) 11000 _ (λx hx=>(ZnE h hC hO hx).1) (λk x u' hx hk hlen=>?_) (λhlen=>?_),Zcr (outT b (Zo.Yk s)) 11000 _ (λx hx=>(ZnE h hC hO hx).1) (λk x u' hx hk hlen=>?_) (λhlen=>?_)⟩
 ·obtain ⟨hp,⟨c,hc,hn⟩,_⟩:=ZmT hC (hO k x hx)
  obtain ⟨q1,q2⟩:=ZkO h (w:=[111,117,116,112,117,116]) (by decide) hp hc hn (by simp[ZlT]) (Zlp hC (hO k x hx)).2;unfold ZlT at q1;dsimp only;unfold XY;rw[if_pos (by omega),Zu,hx,Bq,hc,Bq,Zgm h hv hb hp.1 hp.2,Bq,q1,Bq,Zd (by unfold ZlT at q2;omega),Zar (by omega) (by omega)];rfl
 ·dsimp only
  unfold XY;rw[if_neg (by omega)];exact (Zrj h hv hb hs hS (by omega)).1
 ·obtain ⟨hp,⟨c,hc,hn⟩,_⟩:=ZmT hC (hO k x hx)
  obtain ⟨n1,n2⟩:=Zo6 (l:=ZlT x) (by simp[ZlT]) (Zlp hC (hO k x hx)).2;have hpl:=hp.len h;unfold ZlT at n1 n2;dsimp only;unfold Jr;rw[if_pos (by omega),Zu,hx,Bq,Zd (by simp only[List.length_append,List.length_cons,List.length_nil];omega),hc,Bq,(ZbZ h hp.1 hp.2).1,Bq,Zd (by simp only[List.length_append,List.length_cons,List.length_nil];omega),Zd (by simp only[List.length_append,List.length_cons,List.length_nil];omega),Zd (by simp only[List.length_append,List.length_cons,List.length_nil];omega),n1,Bq,Zd (by simp only[List.length_append,List.length_cons,List.length_nil];omega),Zd (by simp only[List.length_append,List.length_cons,List.length_nil];omega),Zar (by omega) (by omega)];have e:u'++[(111:UInt8),(117:UInt8),(116:UInt8),(112:UInt8),(117:UInt8),(116:UInt8),(32:UInt8)]++Jm b (Zh.Place x)++[(32:UInt8)]++Zc.Name c++Zfj [Yb.Early (Zh.Delay x),Yb.Late (Zh.Delay x)]++[(10:UInt8)]=u'++outT b (Zo.Yk s) x:=by
   unfold outT;rw[ZoQ hc];simp[ZlT,Zii,Go.Lib.join_cons,Go.Lib.joinTail]
  rw[e];rfl
 ·dsimp only
  unfold Jr;rw[if_neg (by omega)];exact (Zrj h hv hb hs hS (by omega)).2
theorem Zrw {b:Zj} (h:ZdN b) {v:Z0} (hv:Z0.Zw v=Zw (Zj.Design b)) (hb:Z0.Block v=b) {s:Zo} (hs:sm Vh s) (hS:Znb (Zw (Zj.Design b)) s) {u:List UInt8} (hu:u.length<=10000000000) :
  Zq (λu=>XZ v s u.1 u.2.1) (u,(0:Int),())=some (.inr (u++ZeU (inT b (Zo.Yk s)) (Zo.Zbb s)++ZeU (outT b (Zo.Yk s)) (Zo.Vp s)++ZeU (exT b) (Zo.Exceptions s)++ZeU ZoL (Zo.X5 s)))/\
  Zq (λu=>Js b s u.1 u.2.1) (u,(0:Int),())=some (.inr (u++ZeU (inT b (Zo.Yk s)) (Zo.Zbb s)++ZeU (outT b (Zo.Yk s)) (Zo.Vp s)++ZeU (exT b) (Zo.Exceptions s)++ZeU ZoL (Zo.X5 s))):=by
 obtain ⟨_,a2,_,_,_⟩:=Zl5 hs;have hsm:=Zv a2;obtain ⟨hC,_,hI,_⟩:=id hS;refine ⟨Zcr (inT b (Zo.Yk s)) 11000 _ (λx hx=>(ZnE h hC hI hx).2) (λk x u' hx hk hlen=>?_) (λhlen=>?_),Zcr (inT b (Zo.Yk s)) 11000 _ (λx hx=>(ZnE h hC hI hx).2) (λk x u' hx hk hlen=>?_) (λhlen=>?_)⟩
 ·obtain ⟨hp,⟨c,hc,hn⟩,_⟩:=ZmT hC (hI k x hx)
  obtain ⟨q1,q2⟩:=ZkO h (w:=[105,110,112,117,116]) (by decide) hp hc hn (by simp[Zrv]) (Zlp hC (hI k x hx)).1;unfold Zrv at q1;dsimp only;unfold XZ;rw[if_pos (by omega),Zu,hx,Bq,hc,Bq,Zgm h hv hb hp.1 hp.2,Bq,q1,Bq,Zd (by unfold Zrv at q2;omega),Zar (by omega) (by omega)];rfl
 ·dsimp only
  unfold XZ;rw[if_neg (by omega)];exact (ZpY h hv hb hs hS (by omega)).1
 ·obtain ⟨hp,⟨c,hc,hn⟩,_⟩:=ZmT hC (hI k x hx)
  obtain ⟨n1,n2⟩:=Zo6 (l:=Zrv x) (by simp[Zrv]) (Zlp hC (hI k x hx)).1;have hpl:=hp.len h;unfold Zrv at n1 n2;dsimp only;unfold Js;rw[if_pos (by omega),Zu,hx,Bq,Zd (by simp only[List.length_append,List.length_cons,List.length_nil];omega),hc,Bq,(ZbZ h hp.1 hp.2).1,Bq,Zd (by simp only[List.length_append,List.length_cons,List.length_nil];omega),Zd (by simp only[List.length_append,List.length_cons,List.length_nil];omega),Zd (by simp only[List.length_append,List.length_cons,List.length_nil];omega),n1,Bq,Zd (by simp only[List.length_append,List.length_cons,List.length_nil];omega),Zd (by simp only[List.length_append,List.length_cons,List.length_nil];omega),Zar (by omega) (by omega)];have e:u'++[(105:UInt8),(110:UInt8),(112:UInt8),(117:UInt8),(116:UInt8),(32:UInt8)]++Jm b (Zh.Place x)++[(32:UInt8)]++Zc.Name c++Zfj [Yb.Early (Zh.Delay x),Yb.Late (Zh.Delay x),Yb.Early (Zh.Za2 x),Yb.Late (Zh.Za2 x)]++[(10:UInt8)]=u'++inT b (Zo.Yk s) x:=by
   unfold inT;rw[ZoQ hc];simp[Zrv,Zii,Go.Lib.join_cons,Go.Lib.joinTail]
  rw[e];rfl
 ·dsimp only
  unfold Js;rw[if_neg (by omega)];exact (ZpY h hv hb hs hS (by omega)).2
noncomputable def Zx3 (b:Zj) (s:Zo):List UInt8:=ZeU (clT b (Zo.Yk s)) (Zo.Yk s)++ZeU (inT b (Zo.Yk s)) (Zo.Zbb s)++ZeU (outT b (Zo.Yk s)) (Zo.Vp s)++ZeU (exT b) (Zo.Exceptions s)++ZeU ZoL (Zo.X5 s)
theorem Zos {b:Zj} (h:ZdN b) {v:Z0} (hv:Z0.Zw v=Zw (Zj.Design b)) (hb:Z0.Block v=b) {s:Zo} (hs:sm Vh s) (hS:Znb (Zw (Zj.Design b)) s) :
  ZaL v s=some (Zx3 b s)/\Zgu b s=some (Zx3 b s):=by
 obtain ⟨hC,hP,_⟩:=id hS;have h6:=hC.1;have hcl:∀ c∈Zo.Yk s,(clT b (Zo.Yk s) c).length<=11000:=by
  intro c hc;obtain ⟨k,hk⟩:=List.mem_iff_getElem?.1 hc;have:=(Zf9 h hv hb hC hk (hP c hc)).2.2;unfold clT;simp only[List.length_append,List.length_cons,List.length_nil];omega
 refine ⟨Zcr (clT b (Zo.Yk s)) 11000 _ hcl (λk x u' hx hk hlen=>?_) (λhlen=>?_),Zcr (clT b (Zo.Yk s)) 11000 _ hcl (λk x u' hx hk hlen=>?_) (λhlen=>?_)⟩
 ·obtain ⟨q1,q2,q3⟩:=Zf9 h hv hb hC hx (hP x (List.mem_of_getElem? hx))
  simp only[List.length_nil] at hlen;dsimp only;unfold Vf;rw[if_pos (by omega),Zu,hx,Bq,q2,Bq,Zd (by rw[List.length_append,List.length_singleton];omega),Zar (by omega) (by omega)];rfl
 ·simp only[List.length_nil] at hlen
  dsimp only;unfold Vf;rw[if_neg (by omega)];exact (Zrw h hv hb hs hS (by omega)).1
 ·obtain ⟨q1,q2,q3⟩:=Zf9 h hv hb hC hx (hP x (List.mem_of_getElem? hx))
  simp only[List.length_nil] at hlen;dsimp only;unfold ZbL;rw[if_pos (by omega),Zu,hx,Bq,q1,Bq,Zd (by omega),Zd (by rw[List.length_append,List.length_singleton];omega),Zar (by omega) (by omega)];unfold clT;rw[List.append_assoc];rfl
 ·simp only[List.length_nil] at hlen
  dsimp only;unfold ZbL;rw[if_neg (by omega)];exact (Zrw h hv hb hs hS (by omega)).2
theorem Zn2 (b:Zj) (s:Zo) (hb:sm Xz b) (hs:sm Vh s):∃ t,Zcd b s=some t/\Zcq b s=some t:=by
 unfold Zcd Zcq;rw[Zlh b hb,Bq,Zl6 b s hb hs,Bq];by_cases hB:ZhJ b
 ·rw[if_pos (Yf hB)]
  have hBS:ZdN b:=⟨hB,hb⟩;obtain ⟨v,h1,h2,h3⟩:=Zo4 hBS;have hpl:=V9 hB.1.few;rw[h1,Bq,Zln v s hs (by rw[h2];omega),Bq,h2];by_cases hS:Znb (Zw (Zj.Design b)) s
  ·obtain ⟨q1,q2⟩:=Zos hBS h2 h3 hs hS
   rw[if_pos (Yf hS),if_pos (Yf ⟨hB,hS⟩),q1,q2];exact ⟨_,rfl,rfl⟩
  ·rw[if_neg (by rw[ZF hS];simp),if_neg (by rw[ZF (λq=>hS q.2)];simp)]
   exact ⟨_,rfl,rfl⟩
 ·rw[if_neg (by rw[ZF hB];simp),if_neg (by rw[ZF (λq=>hB q.1)];simp)]
  exact ⟨_,rfl,rfl⟩
theorem ZHe (b:Zj) (e:ZgL) (s:Zo) (hb:sm Xz b) (he:sm Zug e) (hs:sm Vh s) :
  ∃ r c,ZBb b e s=some (r,c)/\ZAS b e s=some (r,c)/\((c≠0/\r=ZES)\/(c=0/\ZBl b e=some 0/\r=ZFZ (after b e) s/\ZCe b e/\ZqT b s/\∃ q,ZAp e b=some q/\ZBe b e s q)):=by
 obtain ⟨c,h1,h2,h3⟩:=ZFy b e hb he;by_cases hc:c=0
 ·have h:=h3 hc
  by_cases hS:ZqT b s
  ·obtain ⟨r,r1,r2,r3,r4,r5,r6⟩:=ZET h he (by rw[h2,hc]) hs hS.2
   unfold ZBb;rw[h1,Bq,if_pos hc,ZCW b s hb hs,Bq,if_pos (Yf hS),r5,r6,Bq];by_cases q:ZBe b e s r
   ·rw[YS q,YS q]
    exact ⟨_,_,rfl,rfl,.inr ⟨rfl,by rw[hc],rfl,h,hS,r,r1,q⟩⟩
   ·rw[YC q,YC q]
    exact ⟨_,_,rfl,rfl,.inl ⟨by decide,rfl⟩⟩
  ·unfold ZBb ZAS
   rw[h1,h2,Bq,Bq,if_pos hc,if_pos hc,ZCW b s hb hs,Zl6 b s hb hs,Bq,Bq,if_neg (λq=>hS ((QM _).1 q)),if_neg (λq=>hS ((QM _).1 q))];exact ⟨_,_,rfl,rfl,.inl ⟨by decide,rfl⟩⟩
 ·unfold ZBb ZAS
  rw[h1,h2,Bq,Bq,if_neg hc,if_neg hc];exact ⟨_,_,rfl,rfl,.inl ⟨hc,rfl⟩⟩
theorem ZI8 {b q:Zj} {e:ZgL} {s:Zo} (h:ZCe b e) (he:sm Zug e) (hs:sm Vh s) (hS:ZqT b s) (hq:ZAp e b=some q) (hO:ZBe b e s q) :
  ∃ f,ZDc b e=some (q,0)/\ZAr e b=some f/\ZBb q f (ZFZ (after b e) s)=some (s,0)/\ZBQ q (ZFZ (after b e) s)=some true:=by
 obtain ⟨r,f,u1,u2,u3,u4,u5,u6⟩:=undo h he;rw[hq] at u1;injection u1 with u1
 subst u1;have hF:=ZKd hS.2;obtain ⟨b1,b2⟩:=ZJm h he hq u2 hF hO.1;obtain ⟨c1,_⟩:=ZFs u5 u4 u6;obtain ⟨c,k1,k2,_⟩:=ZFy q f u3.sm u4;have hc:c=0:=by
  rw[k1] at c1;injection c1
 have hsm:=ZFG (af:=after b e) hs;obtain ⟨r',r1,r2,r3,r4,r5,r6⟩:=ZET u5 u4 (by rw[k2,hc]) hsm hO.2.2;rw[u6] at r1;injection r1 with r1
 subst r1;have hO2:ZBe q f (ZFZ (after b e) s) b:=⟨b2,by rw[b1];exact hS⟩;have hI:ZBQ q (ZFZ (after b e) s)=some true:=by rw[ZCW q _ u3.sm hsm,Yf hO.2]
 refine ⟨f,(ZFs h he hq).2,u2,?_,hI⟩;unfold ZBb;rw[c1,Bq,if_pos rfl,hI,Bq,if_pos rfl,r5,Bq,YS hO2,b1];rfl
theorem ZFo (code:List Int) (hb:bnd (.sl (.int .u8)) code):ZB4 code=some true:=by
 unfold ZB4 ZHN;rw[Bq];by_cases hbig:decide ((4096:Int)<(code.length:Int))=true
 ·rw[if_pos hbig]
 rw[if_neg hbig];have hlen:code.length<=4096:=by
  simp only[decide_eq_true_eq] at hbig;omega
 obtain ⟨⟨b,e,s⟩,hd,hbs,hes,hss⟩:=ZFx hb hlen;have hbs:sm Xz b:=hbs;have hes:sm Zug e:=hes;have hss:sm Vh s:=hss;rw[hd,Bq];dsimp only;obtain ⟨r,c,e1,e2,hcase⟩:=ZHe b e s hbs hes hss;rw[e1,Bq,e2,Bq,if_pos rfl];rcases hcase with ⟨hc,hr⟩ | ⟨hc,hE,hr,hC,hS,q,hq,hO⟩
 ·rw[if_neg hc,hr]
  rfl
 ·obtain ⟨f,f1,f2,f3,f4⟩:=ZI8 hC hes hss hS hq hO
  have eI:ZDe b e=some (f,0):=by
   unfold ZDe;rw[hE,Bq,if_pos rfl,f2];rfl
  obtain ⟨t,t1,t2⟩:=Zn2 b s hbs hss;subst hr;rw[if_pos hc,f1,Bq,eI,Bq];dsimp only;rw[f3,Bq,if_pos rfl,if_pos rfl,if_pos rfl,f4,Bq,if_pos rfl,t1,Bq,t2,Bq,decide_eq_true rfl]
end Go.Proofs.YtepbknolmhmipaaGreatDoor
