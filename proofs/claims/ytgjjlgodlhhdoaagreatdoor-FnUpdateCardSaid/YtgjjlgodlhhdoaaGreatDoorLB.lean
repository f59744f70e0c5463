/-
  Plain laws: the loads of a net, in program and reference.
-/
import Derived.Test.YtgjjlgodlhhdoaaGreatDoorLA
namespace Go.Proofs.YtgjjlgodlhhdoaaGreatDoor
set_option linter.unusedVariables false
set_option linter.unusedSimpArgs false
open Go Go.Sx
theorem ZqH {b:Zc} (h:XT b) {v:Nat} {w:Zq} (hw:(Zc.Yw b)[v]?=some w):ZaX b (v:Int)=Yk b (v:Int):=by
  have hf:=h.ok.1.few;unfold ZaX Yk;rw[Zo,hw,Bq,Bq,show VI (Zq.Cap w)=XC (Zq.Cap w) from rfl,YW _ hf,Xb _ hf,Zbz _ _ hf,Za5 _ _ hf];refine congrArg (Option.bind _) ?_;funext l;rw[Bq,Bq,Bq,Bq];refine congrArg (λf=>Zp f _) ?_;funext u;obtain ⟨i,l,⟨⟩⟩:=u;simp only[Zeq,YN];split
  · cases atI (sinks (Zc.Design b) (v:Int)) i with
    | none =>
      cases atI (Zq.Zc0 w) i with
      | none=>rfl
      | some z =>
        simp only[Bq,Option.bind_none];cases atI l z<;>rfl
    | some y =>
      cases atI (Zq.Zc0 w) i with
      | none=>rfl
      | some z =>
        simp only[Bq];cases atI l z with
        | none=>rfl
        | some q=>rfl
  · rfl
def Ziz:List Int->Int
  | []=>0
  | x::r=>x+Ziz r
theorem ZkB:∀ l r:List Int,Ziz (l++r)=Ziz l+Ziz r
  | [],r=>by show Ziz r=0+Ziz r;omega
  | x::l,r=>by
    show x+Ziz (l++r)=x+Ziz l+Ziz r;rw[ZkB l r];omega
theorem ZmE:∀ {l:List Int} {i:Nat} {x:Int} (c:Int),l[i]?=some x->Ziz (l.set i (x+c))=Ziz l+c
  | [],i,x,c,h=>by simp at h
  | y::l,0,x,c,h=>by
    have:y=x:=by simpa using h
    subst this;show y+c+Ziz l=y+Ziz l+c;omega
  | y::l,i+1,x,c,h=>by
    show y+Ziz (l.set i (x+c))=y+Ziz l+c;rw[ZmE c (by simpa using h)];omega
theorem ZmD:∀ {l:List Int},(∀ x∈l,0<=x)->0<=Ziz l/\∀ x∈l,x<=Ziz l
  | [],_=>⟨Int.le_refl _,λx hx=>by cases hx⟩
  | y::l,h=>by
    obtain ⟨h1,h2⟩:=ZmD (l:=l) λx hx=>h x (List.mem_cons_of_mem _ hx);have hy:=h y List.mem_cons_self;refine ⟨by show 0<=y+Ziz l;omega,λx hx=>?_⟩;show x<=y+Ziz l;rcases List.mem_cons.1 hx with rfl | hx
    · omega
    · have:=h2 x hx;omega
theorem Zr7:∀ {l:List Int} {c:Int},(∀ x∈l,x<=c)->Ziz l<=(l.length:Int)*c
  | [],c,_=>by show (0:Int)<=((0:Nat):Int)*c;simp
  | y::l,c,h=>by
    have h1:=Zr7 (l:=l) (c:=c) λx hx=>h x (List.mem_cons_of_mem _ hx);have h2:=h y List.mem_cons_self;show y+Ziz l<=((l.length+1:Nat):Int)*c;rw[show ((l.length+1:Nat):Int)=(l.length:Int)+1 by omega,Int.add_mul,Int.one_mul];omega
theorem ZiD {l:List Int} {i:Nat} {x y:Int} (h:y∈l.set i x):y=x\/y∈l:=(List.mem_or_eq_of_mem_set h).symm
theorem ZnN {a:Zy} {d:Zd} (h:Zac a d) {x:Pl} (hx:x∈places d):∃ n,QV d a x=some n/\0<=n/\n<=500:=by
  unfold QV;split
  · exact ⟨_,rfl,by omega,by omega⟩
  · rename_i hneg
    unfold places at hx;rcases List.mem_append.1 hx with hx | hx
    · obtain ⟨i,z,hi,hz⟩:=XU.1 hx
      unfold VY at hz;obtain ⟨j,n,hj,hn⟩:=XU.1 hz;simp only[List.mem_singleton] at hn;subst hn;rw[Nat.zero_add] at hneg;obtain ⟨hc,⟨c,hc1,hc2⟩,_⟩:=h.2.2.1 z (List.mem_of_getElem? hi);have hj2:=(List.getElem?_eq_some_iff.1 hj).1;have hpins:=(h.1.2.1 c (List.mem_of_getElem? hc1)).2.1;simp only[YJ.instance,YJ.pin,Nat.zero_add,Zo,hi,Bq];rw[Qn hc.1 hc1,Bq];have hp:(Zl.YD c)[j]?=some (Zl.YD c)[j]:=List.getElem?_eq_getElem (by omega);rw[hp,Bq];have hb:=(hpins.2.2.2 j _ hp).1;exact ⟨_,rfl,hb.1,hb.2⟩
    · obtain ⟨j,p,hj,hp⟩:=XU.1 hx
      simp only[Zfc,List.mem_singleton] at hp;subst hp;exact absurd (by show (-1:Int)<0;omega) hneg
theorem ZnH {b:Zc} (h:XT b) {k:Nat} {w:Zq} (hw:(Zc.Yw b)[k]?=some w):∃ r,Yk b (k:Int)=some r/\r.length=(Zq.Parent w).length/\∀ x∈r,0<=x/\x<=43000:=by
  have hW:=h.ok.2.2 k w hw;have hD:=h.ok.1;have hf:=hD.few;obtain ⟨⟨l1,l8⟩,lr,lc,ls,ht,ar,ac,asn⟩:=hW;have hpl:=YK hf;have hsl:=Zcx (k:Int) (places (Zc.Design b)) 0;have hsl2:(sinks (Zc.Design b) (k:Int)).length<=78:=by unfold sinks;omega
  have hc0:Ziz (Zq.Cap w)<=4000:=by
    have:=Zr7 (l:=Zq.Cap w) (c:=500) λx hx=>(ac x hx).2;omega
  unfold Yk;rw[Zo,hw,Bq];unfold XC;rw[Zn (by simp;omega),Bq,Xb _ hf,Bq,Za5 _ _ hf,Bq,List.nil_append];refine Zgq (l:=sinks (Zc.Design b) (k:Int)) (λm v=>v.1=(m:Int)/\v.2.1.length=(Zq.Parent w).length/\(∀ x∈v.2.1,0<=x)/\Ziz v.2.1<=4000+(m:Int)*500) _ ⟨rfl,by simp;omega,λx hx=>(ac x hx).1,by simp only;omega⟩ ?_ ?_
  · rintro m y ⟨i,l,⟨⟩⟩ hy hm ⟨hi,hl,hnn,hsum⟩
    simp only at hi hl hnn hsum;subst hi;have hz:(Zq.Zc0 w)[m]?=some (Zq.Zc0 w)[m]:=List.getElem?_eq_getElem (by omega);generalize (Zq.Zc0 w)[m]=z at hz;have hz2:=asn z (List.mem_of_getElem? hz);obtain ⟨q,hq1,hq2⟩:=Zfm (l:=l) hz2.1 (by omega);obtain ⟨hy1,hy2⟩:=Zgr (List.mem_of_getElem? hy);obtain ⟨p,hp1,hp2⟩:=Zfm hy1 hy2;obtain ⟨c,hc,c0,c5⟩:=ZnN hD hp2;have hq0:=hnn q hq2;have hqs:=(ZmD hnn).2 q hq2;have hq3:l[z.toNat]?=some q:=by
      unfold atI at hq1;rw[if_pos hz2.1] at hq1;exact hq1
    simp only[YN,show (m:Int)<((sinks (Zc.Design b) (k:Int)).length:Int) from by omega,if_true,Zo,hy,hz,Bq,hq1,hp1,hc];rw[YI (n:=q+c) (by omega) (by omega)];refine ⟨_,rfl,by rw[Y8 (by omega)],by simp[hl],λx hx=>?_,?_⟩
    · rcases ZiD hx with rfl | hx
      · omega
      · exact hnn x hx
    · simp only
      rw[ZmE c hq3];omega
  · rintro ⟨i,l,⟨⟩⟩ ⟨hi,hl,hnn,hsum⟩
    simp only at hi hl hnn hsum;subst hi;simp only[YN,Int.lt_irrefl,if_false];have hT:Ziz l<=43000:=by omega
    have hall:∀ x∈l,0<=x/\x<=43000:=λx hx=>⟨hnn x hx,by have:=(ZmD hnn).2 x hx;omega⟩;have:=Zee (σ:=Int×List Int×Unit) (ρ:=(Int×List Int×Unit) ⊕ List Int) (step:=λv=>Xm w v.1 v.2.1) (λv=>(∃ j:Nat,v.1=(j:Int)/\j<(Zq.Parent w).length/\Ziz (v.2.1.take (j+1))<=43000)/\v.2.1.length=(Zq.Parent w).length/\∀ x∈v.2.1,0<=x/\x<=43000) (λv=>v.1.toNat) (λr=>∃ r',r=.inr r'/\r'.length=(Zq.Parent w).length/\∀ x∈r',0<=x/\x<=43000) (v:=(Wq ((l.length:Int)-1),l,()))
      ⟨⟨l.length-1,by show Wq _=_;rw[ZgW (by omega) (by omega)],by omega,by simp only;rw[List.take_of_length_le (by omega)];exact hT⟩,hl,hall⟩
      (by
        rintro ⟨i,l,⟨⟩⟩ ⟨⟨j,hj,hj2,hjs⟩,hl,hall⟩;simp only at hj hl hjs hall;subst hj;simp only[Xm];by_cases h0:(0:Int)<(j:Int)
        · rw[if_pos h0]
          have hp:(Zq.Parent w)[j]?=some (Zq.Parent w)[j]:=List.getElem?_eq_getElem (by omega);generalize (Zq.Parent w)[j]=p at hp;have hp2:=(ht j p hp).2 (by omega);obtain ⟨q,hq1,hq2⟩:=Zfm (l:=l) hp2.1 (by omega);have hq3:l[p.toNat]?=some q:=by
            unfold atI at hq1;rw[if_pos hp2.1] at hq1;exact hq1
          have hl2:l[j]?=some l[j]:=List.getElem?_eq_getElem (by omega);generalize l[j]=y at hl2;have hy:=hall y (List.mem_of_getElem? hl2);have hq:=hall q hq2;simp only[Zo,hp,Bq,hq1,hl2];rw[YI (n:=q+y) (by omega) (by omega)];have hqt:(l.take j)[p.toNat]?=some q:=by rw[List.getElem?_take,if_pos (by omega)];exact hq3
          have hnew:Ziz ((l.set p.toNat (q+y)).take j)<=43000:=by
            rw[List.take_set,ZmE y hqt];rw[XR hl2,ZkB] at hjs;have:Ziz [y]=y:=by show y+0=y;omega
            omega
          have hnn2:∀ x∈(l.set p.toNat (q+y)).take j,0<=x:=λx hx=>by
            rcases ZiD (List.mem_of_mem_take hx) with rfl | hx
            · omega
            · exact (hall x hx).1
          have hqy:q+y<=43000:=by
            have hmem:q+y∈(l.set p.toNat (q+y)).take j:=by
              refine List.mem_of_getElem? (i:=p.toNat) ?_;rw[List.getElem?_take,if_pos (by omega),List.getElem?_set_self (by omega)]
            have:=(ZmD hnn2).2 _ hmem;omega
          left;refine ⟨_,rfl,⟨⟨j-1,by rw[ZgW (by omega) (by omega)],by omega,?_⟩,by simp[hl],λx hx=>?_⟩,?_⟩
          · simp only
            rw[show j-1+1=j by omega];exact hnew
          · rcases ZiD hx with rfl | hx
            · exact ⟨by omega,hqy⟩
            · exact hall x hx
          · show (Wq ((j:Int)-1)).toNat<((j:Int)).toNat
            rw[ZgW (by omega) (by omega)];omega
        · rw[if_neg h0]
          right;exact ⟨_,rfl,_,rfl,hl,hall⟩)
    obtain ⟨r,h1,r',rfl,h3⟩:=this;exact ⟨r',h1,h3⟩
theorem Zf2 {a b A B:Int} (h1:0<=a) (h2:a<=A) (h3:0<=b) (h4:b<=B):0<=a*b/\a*b<=A*B :=
  ⟨Int.mul_nonneg h1 h3,Int.mul_le_mul h2 h4 h3 (by omega)⟩
theorem ZkG {y p M:Int} (h1:-M<=y) (h2:y<=M) (h3:0<=p):-(M*p)<=y*p/\y*p<=M*p:=by
  have a:=Int.mul_le_mul_of_nonneg_right h1 h3;have b:=Int.mul_le_mul_of_nonneg_right h2 h3;rw[Int.neg_mul] at a;exact ⟨a,b⟩
def dlF (w:Zq) (ld:List Int):Nat->List Int
  | 0=>[0]
  | m+1=>dlF w ld m++[((dlF w ld m)[(((Zq.Parent w)[m+1]?).getD 0).toNat]?).getD 0+(((Zq.Res w)[m+1]?).getD 0)*((ld[m+1]?).getD 0)]
theorem Zhc (w:Zq) (ld:List Int):∀ m,(dlF w ld m).length=m+1
  | 0=>rfl
  | m+1=>by show (dlF w ld m++[_]).length=_;rw[List.length_append,Zhc w ld m];rfl
theorem ZoD {l:List Int} {lo hi:Int} (h:∀ x∈l,lo<=x/\x<=hi) (h1:lo<=0) (h2:0<=hi) (i:Nat):lo<=(l[i]?).getD 0/\(l[i]?).getD 0<=hi:=by
  cases e:l[i]? with
  | none=>exact ⟨h1,h2⟩
  | some x=>exact h x (List.mem_of_getElem? e)
theorem ZrM {w:Zq} {ld:List Int} (hr:∀ x∈Zq.Res w,0<=x/\x<=1000) (hl:∀ x∈ld,0<=x/\x<=43000):∀ m,∀ x∈dlF w ld m,0<=x/\x<=(m:Int)*43000000
  | 0,x,hx=>by
    have:x=0:=by simpa[dlF] using hx
    subst this;omega
  | m+1,x,hx=>by
    have hm:=ZrM hr hl m;rcases List.mem_append.1 (show x∈dlF w ld m++[_] from hx) with hx | hx
    · have:=hm x hx;omega
    · rw[List.mem_singleton.1 hx]
      have a:=ZoD hm (by omega) (by omega) (((Zq.Parent w)[m+1]?).getD 0).toNat;have b:=ZoD hr (by omega) (by omega) (m+1);have c:=ZoD hl (by omega) (by omega) (m+1);have d:=Zf2 b.1 b.2 c.1 c.2;omega
structure Zom (b:Zc) (k:Nat) (w:Zq) (ld:List Int):Prop where
  wire:(Zc.Yw b)[k]?=some w
  n1:1<=(Zq.Parent w).length
  n8:(Zq.Parent w).length<=8
  nr:(Zq.Res w).length=(Zq.Parent w).length
  nl:ld.length=(Zq.Parent w).length
  par:∀ (m:Nat),m+1<(Zq.Parent w).length->∃ p,(Zq.Parent w)[m+1]?=some p/\0<=p/\p<=(m:Int)
  res:∀ x∈Zq.Res w,0<=x/\x<=1000
  lds:∀ x∈ld,0<=x/\x<=43000
  snk:∀ x∈Zq.Zc0 w,0<=x/\x<=((Zq.Parent w).length:Int)-1
  few:(Zq.Zc0 w).length<=1048576
  prog:Yk b (k:Int)=some ld
  ref:ZaX b (k:Int)=some ld
theorem Zzo {b:Zc} (h:XT b) {k:Nat} {w:Zq} (hw:(Zc.Yw b)[k]?=some w):∃ ld,Zom b k w ld:=by
  have hW:=h.ok.2.2 k w hw;obtain ⟨⟨l1,l8⟩,lr,lc,ls,ht,ar,ac,asn⟩:=hW;obtain ⟨nl,hnl,hnl2,hbd⟩:=ZnH h hw;have hsm:=ZF (Zn2 (Zf4 (Zhp h.sm).2.2 hw)).2.2.2;refine ⟨nl,hw,l1,l8,lr,hnl2,λm hm=>?_,ar,hbd,asn,by omega,hnl,by rw[ZqH h hw,hnl]⟩;have hp:(Zq.Parent w)[m+1]?=some ((Zq.Parent w)[m+1]'hm):=List.getElem?_eq_getElem _;have:=(ht (m+1) _ hp).2 (by omega);exact ⟨_,hp,this.1,by omega⟩
def ndl (w:Zq) (ld:List Int):List Int:=dlF w ld ((Zq.Parent w).length-1)
theorem Zom.len {b:Zc} {k:Nat} {w:Zq} {ld:List Int} (h:Zom b k w ld):(ndl w ld).length=(Zq.Parent w).length:=by
  have:=h.n1;unfold ndl;rw[Zhc];omega
theorem Zom.bd {b:Zc} {k:Nat} {w:Zq} {ld:List Int} (h:Zom b k w ld):∀ x∈ndl w ld,0<=x/\x<=301000000:=λx hx=>by
  have:=ZrM h.res h.lds _ x hx;have:=h.n1;have:=h.n8;omega
theorem Zom.step {b:Zc} {k:Nat} {w:Zq} {ld:List Int} (h:Zom b k w ld) {m:Nat} (hm:m+1<(Zq.Parent w).length) :
    ∃ p r l q,(Zq.Parent w)[m+1]?=some p/\(Zq.Res w)[m+1]?=some r/\ld[m+1]?=some l/\0<=p/\p<=(m:Int)/\(dlF w ld m)[p.toNat]?=some q/\Wq (q+Wq (r*l))=q+r*l/\dlF w ld (m+1)=dlF w ld m++[q+r*l]:=by
  obtain ⟨p,hp,p0,p1⟩:=h.par m hm;have hr:(Zq.Res w)[m+1]?=some ((Zq.Res w)[m+1]'(by have:=h.nr;omega)):=List.getElem?_eq_getElem _;have hl:ld[m+1]?=some (ld[m+1]'(by have:=h.nl;omega)):=List.getElem?_eq_getElem _;have hq:(dlF w ld m)[p.toNat]?=some ((dlF w ld m)[p.toNat]'(by rw[Zhc];omega)):=List.getElem?_eq_getElem _;have b1:=h.res _ (List.mem_of_getElem? hr);have b2:=h.lds _ (List.mem_of_getElem? hl);have b3:=ZrM h.res h.lds m _ (List.mem_of_getElem? hq);generalize (Zq.Res w)[m+1]'(by have:=h.nr;omega)=r at *;generalize ld[m+1]'(by have:=h.nl;omega)=l at *;generalize (dlF w ld m)[p.toNat]'(by rw[Zhc];omega)=q at *;have b4:=Zf2 b1.1 b1.2 b2.1 b2.2;have:=h.n8;refine ⟨p,r,l,q,hp,hr,hl,p0,p1,hq,by rw[YI (n:=r*l) (by omega) (by omega),YI (by omega) (by omega)],?_⟩;show dlF w ld m++[_]=_;rw[hp,hr,hl];simp only[Option.getD_some];rw[hq];rfl
theorem ZkW {b:Zc} {k:Nat} {w:Zq} {ld:List Int} (h:Zom b k w ld):Zbo b (k:Int)=some (ndl w ld):=by
  have hn:=h.nl;have h1:=h.n1;have h8:=h.n8;unfold Zbo;rw[Zo,h.wire,Bq,h.ref,Bq];refine Yv ((Zq.Parent w).length-1) (λm v=>v=(dlF w ld m,((m+1:Nat):Int),())) _ rfl ?_ ?_
  · rintro m _ hm rfl
    obtain ⟨p,r,l,q,e1,e2,e3,p0,p1,e4,e5,e6⟩:=h.step (m:=m) (by omega);have e4':atI (dlF w ld m) p=some q:=Qn p0 e4;simp only[Zbe,show ((m+1:Nat):Int)<(ld.length:Int) from by omega,if_true,Zo,e1,e2,e3,e4',Bq,e5];rw[Zn (by rw[Zhc];simp only[List.length_cons,List.length_nil];omega),Y8 (by omega)];exact .inl ⟨_,rfl,by rw[e6]⟩
  · rintro _ rfl
    simp only[Zbe,show ¬(((Zq.Parent w).length-1+1:Nat):Int)<(ld.length:Int) from by omega,if_false];rfl
theorem ZoG {b:Zc} {k:Nat} {w:Zq} {ld:List Int} (h:Zom b k w ld):XJ b (k:Int)=some (ndl w ld):=by
  have hn:=h.nl;have h1:=h.n1;have h8:=h.n8;unfold XJ;rw[Zo,h.wire,Bq,h.prog,Bq,Zn (by omega),Zn (by omega),Zn (by omega),Zn (by omega)];refine Yv ((Zq.Parent w).length-1) (λm v=>v=(((m+1:Nat):Int),dlF w ld m++List.replicate ((Zq.Parent w).length-1-m) (0:Int),())) _ ?_ ?_ ?_
  · rw[Int.toNat_natCast,hn]
    simp only[Prod.mk.injEq,and_true];refine ⟨rfl,?_⟩;show List.replicate (Zq.Parent w).length (0:Int)=[0]++List.replicate ((Zq.Parent w).length-1-0) 0;rw[show (Zq.Parent w).length=((Zq.Parent w).length-1)+1 by omega,List.replicate_succ];simp
  · rintro m _ hm rfl
    obtain ⟨p,r,l,q,e1,e2,e3,p0,p1,e4,e5,e6⟩:=h.step (m:=m) (by omega);have hlen:=Zhc w ld m;have e4':atI (dlF w ld m++List.replicate ((Zq.Parent w).length-1-m) (0:Int)) p=some q:=Qn p0 (by rw[List.getElem?_append_left (by omega)];exact e4);have e7:(dlF w ld m++List.replicate ((Zq.Parent w).length-1-m) (0:Int))[m+1]?=some 0:=by
      rw[List.getElem?_append_right (by omega),hlen,List.getElem?_replicate,if_pos (by omega)]
    have hl2:(dlF w ld m++List.replicate ((Zq.Parent w).length-1-m) (0:Int)).length=(Zq.Parent w).length:=by
      rw[List.length_append,List.length_replicate];omega
    simp only[Xa,hl2,show ((m+1:Nat):Int)<((Zq.Parent w).length:Int) from by omega,if_true,Zo,e1,e2,e3,e4',e7,Bq,e5];rw[Y8 (by omega)];refine .inl ⟨_,rfl,?_⟩;simp only[Prod.mk.injEq,and_true,true_and,Int.toNat_natCast];rw[e6,List.set_append_right _ _ (by omega),hlen,show (Zq.Parent w).length-1-m=((Zq.Parent w).length-1-(m+1))+1 by omega,List.replicate_succ,Nat.sub_self,List.set_cons_zero,List.append_assoc];rfl
  · rintro _ rfl
    have hl2:(dlF w ld ((Zq.Parent w).length-1)++List.replicate ((Zq.Parent w).length-1-((Zq.Parent w).length-1)) (0:Int)).length=(Zq.Parent w).length:=by
      rw[List.length_append,List.length_replicate,Zhc];omega
    simp only[Xa,hl2,show ¬(((Zq.Parent w).length-1+1:Nat):Int)<((Zq.Parent w).length:Int) from by omega,if_false];rw[Nat.sub_self,List.replicate_zero,List.append_nil];rfl
theorem ZuW {l:List Int} (h:Inc l) {i:Nat} {x:Int} (hx:l[i]?=some x):∀ (m:Nat) (y:Int),l[i+m+1]?=some y->x<y
  | 0,y,hy=>h i x y hx hy
  | m+1,y,hy=>by
    have hl:=(List.getElem?_eq_some_iff.1 hy).1;have hz:l[i+m+1]?=some (l[i+m+1]'(by omega)):=List.getElem?_eq_getElem _;have h1:=ZuW h hx m _ hz;have h2:=h (i+m+1) _ y hz hy;omega
theorem Ziv {l:List Int} (h:Inc l) {i j:Nat} {x y:Int} (hij:i<j) (hx:l[i]?=some x) (hy:l[j]?=some y):x<y :=
  ZuW h hx (j-i-1) y (by rw[show i+(j-i-1)+1=j by omega];exact hy)
def On (l:List Int) (x:Int) (j:Nat):Prop:=l[j]?=some x
def Btw (l:List Int) (x:Int) (j:Nat) (y z:Int):Prop:=l[j]?=some y/\l[j+1]?=some z/\y<x/\x<z
theorem Zw4 {l:List Int} {x a c:Int} (h0:l[0]?=some a) (h1:l[l.length-1]?=some c) (hx0:a<=x) (hx1:x<=c):(∃ j,On l x j)\/∃ j y z,Btw l x j y z:=by
  have key:∀ (k:Nat) (y:Int),l[k]?=some y->y<=x\/((∃ j,On l x j)\/∃ j y z,Btw l x j y z):=by
    intro k;induction k with
    | zero =>
      intro y hy;rw[h0] at hy;injection hy with hy
      exact .inl (by omega)
    | succ k ih =>
      intro y hy;have hl:=(List.getElem?_eq_some_iff.1 hy).1;have hz:l[k]?=some (l[k]'(by omega)):=List.getElem?_eq_getElem _;rcases ih _ hz with q | q
      · by_cases w:y<=x
        · exact .inl w
        · right
          by_cases e:l[k]'(by omega)=x
          · exact .inl ⟨k,by unfold On;rw[hz,e]⟩
          · exact .inr ⟨k,_,y,hz,hy,by omega,by omega⟩
      · exact .inr q
  rcases key _ c h1 with q | q
  · exact .inl ⟨l.length-1,by unfold On;rw[h1];congr 1;omega⟩
  · exact q
structure Fst (l:List Int) (x:Int) (p:Nat):Prop where
  le:p<=l.length
  low:∀ (i:Nat) (y:Int),i<p->l[i]?=some y->y<x
  up:∀ (i:Nat) (y:Int),p<=i->l[i]?=some y->x<=y
theorem Fst.on {l:List Int} {x:Int} {p j:Nat} (h:Fst l x p) (hi:Inc l) (hj:On l x j):p=j:=by
  have hjl:=(List.getElem?_eq_some_iff.1 hj).1;rcases Nat.lt_trichotomy p j with q | q | q
  · have hp:l[p]?=some (l[p]'(by omega)):=List.getElem?_eq_getElem _
    have h1:=Ziv hi q hp hj;have h2:=h.up p _ (Nat.le_refl _) hp;omega
  · exact q
  · have:=h.low j x q hj
    omega
theorem Fst.btw {l:List Int} {x:Int} {p j:Nat} {y z:Int} (h:Fst l x p) (hi:Inc l) (hj:Btw l x j y z):p=j+1:=by
  obtain ⟨h1,h2,h3,h4⟩:=hj;have hjl:=(List.getElem?_eq_some_iff.1 h2).1;rcases Nat.lt_trichotomy p (j+1) with q | q | q
  · have:=h.up j y (by omega) h1
    omega
  · exact q
  · have:=h.low (j+1) z q h2
    omega
theorem Ztp {ρ:Type} {l:List Int} {x:Int} (hi:Inc l) {step:Int×Int×Unit->Option ((Int×Int×Unit) ⊕ ρ)} {good:Nat->ρ}
    (h1:∀ (i j:Nat) (y:Int),i<j->j<=l.length->l[(i+j) / 2]?=some y->step ((i:Int),(j:Int),())=some (.inl (if y<x then (((i+j) / 2+1:Nat):Int) else (i:Int),if y<x then (j:Int) else (((i+j) / 2:Nat):Int),())))
    (h2:∀ i:Nat,i<=l.length->step ((i:Int),(i:Int),())=some (.inr (good i))):∃ p,Fst l x p/\Zp step ((0:Int),(l.length:Int),())=some (good p):=by
  obtain ⟨r,e,p,rfl,hp⟩:=Zee (step:=step) (v:=((0:Int),(l.length:Int),())) (λv=>∃ i j:Nat,v=((i:Int),(j:Int),())/\i<=j/\j<=l.length/\(∀ (k:Nat) (y:Int),k<i->l[k]?=some y->y<x)/\∀ (k:Nat) (y:Int),j<=k->l[k]?=some y->x<=y) (λv=>(v.2.1-v.1).toNat) (λr=>∃ p,r=good p/\Fst l x p)
    ⟨0,l.length,rfl,by omega,Nat.le_refl _,λk y hk=>by omega,λk y hk hy=>by have:=(List.getElem?_eq_some_iff.1 hy).1;omega⟩ (by
      rintro _ ⟨i,j,rfl,hij,hj,hlo,hup⟩;by_cases c:i<j
      · left
        have hy:l[(i+j) / 2]?=some (l[(i+j) / 2]'(by omega)):=List.getElem?_eq_getElem _;generalize l[(i+j) / 2]'(by omega)=y at hy;refine ⟨_,h1 i j y c hj hy,?_,?_⟩
        · by_cases d:y<x
          · refine ⟨(i+j) / 2+1,j,by rw[if_pos d,if_pos d],by omega,hj,λk z hk hz=>?_,hup⟩
            by_cases w:k=(i+j) / 2
            · subst w;rw[hy] at hz;injection hz with hz;omega
            · have:=Ziv hi (by omega) hz hy;omega
          · refine ⟨i,(i+j) / 2,by rw[if_neg d,if_neg d],by omega,by omega,hlo,λk z hk hz=>?_⟩
            by_cases w:k=(i+j) / 2
            · subst w;rw[hy] at hz;injection hz with hz;omega
            · have:=Ziv hi (by omega) hy hz;omega
        · by_cases d:y<x
          · rw[if_pos d,if_pos d];simp only;omega
          · rw[if_neg d,if_neg d];simp only;omega
      · right
        have:i=j:=by omega
        subst this;exact ⟨_,h2 i hj,i,rfl,hj,hlo,hup⟩)
  exact ⟨p,hp,e⟩
structure Zxw (l:List Int) (j a b:Int):Prop where
  j0:0<=j
  jl:j<l.length
  jb:0<b->j+1<l.length
  a0:0<a
  b0:0<=b
  ab:a+b<=100000
def wl (j a b:Int):List J6:=if b=0 then [(j,a,())] else [(j,a,()),(j+1,b,())]
theorem ZvG {i j:Nat} (h:i+j<=100):Wq (Int.fdiv (IntKind.wrap IntKind.u64 (Wq ((i:Int)+(j:Int)))) ((2:Int) ^ Min.min (Int.toNat (1:Int)) (IntKind.bits IntKind.u64)))=(((i+j) / 2:Nat):Int):=by
  rw[YI (n:=(i:Int)+(j:Int)) (by omega) (by omega),show IntKind.wrap IntKind.u64 ((i:Int)+(j:Int))=(i:Int)+(j:Int) from IntWalk.u64_in _ (by omega),show ((2:Int) ^ Min.min (Int.toNat (1:Int)) (IntKind.bits IntKind.u64))=2 from by decide,Int.fdiv_eq_ediv_of_nonneg _ (by omega),YI (by omega) (by omega)];omega
theorem ZvO (x y:Int):Zdh x y=some (decide (x<y)):=by
  unfold Zdh Zca;rw[Bq,decide_eq_true (show x=x from rfl)];rfl
theorem ZwT (x:Int):VF x=some false:=by
  unfold VF;rw[decide_eq_true (show x=x from rfl)];rfl
theorem ZsI {l:List Int} (hi:Inc l) (hl:l.length<=4) (x:Int):∃ p,Fst l x p/\Y9 l x=some ((p:Int),decide (l[p]?=some x)):=by
  unfold Y9;refine Ztp (x:=x) (good:=λp=>((p:Int),decide (l[p]?=some x))) hi (λi j y hij hj hy=>?_) (λi hi=>?_)
  · simp only[Xl,show (i:Int)<(j:Int) from by omega,if_true,ZvG (show i+j<=100 by omega),Zo,hy,Bq,ZvO,decide_eq_true_eq,Y8 (show (i+j) / 2<=1048576 by omega)]
    by_cases c:y<x
    · rw[if_pos c,if_pos c,if_pos c]
    · rw[if_neg c,if_neg c,if_neg c]
  · simp only[Xl,Int.lt_irrefl,if_false]
    by_cases c:i<l.length
    · have hy:l[i]?=some l[i]:=List.getElem?_eq_getElem c
      generalize l[i]=y at hy;rw[if_pos (show (i:Int)<(l.length:Int) by omega),Zo,hy,Bq];by_cases e:y=x
      · rw[if_pos e,decide_eq_true (by rw[e])]
      · rw[if_neg e,ZwT,Bq,if_neg (by simp),decide_eq_false (by rw[Option.some.injEq];exact e)]
    · rw[if_neg (show ¬(i:Int)<(l.length:Int) by omega),List.getElem?_eq_none (by omega)]
      rfl
theorem Zl7 {l:List Int} (h:ZdR l) (x:Int):∃ j a b,Zxw l j a b/\ZaE l x=some (j,a,b)/\Zdy l x=some (wl j a b,a+b):=by
  obtain ⟨l1,l4,hin,hi⟩:=h;have h0:l[0]?=some (l[0]'(by omega)):=List.getElem?_eq_getElem _;have hn:l[l.length-1]?=some (l[l.length-1]'(by omega)):=List.getElem?_eq_getElem _;generalize l[0]'(by omega)=x1 at h0;generalize l[l.length-1]'(by omega)=x2 at hn;have h12:x1<=x2:=by
    by_cases q:l.length=1
    · rw[q] at hn
      rw[h0] at hn;injection hn with hn
      omega
    · have:=Ziv hi (show 0<l.length-1 by omega) h0 hn
      omega
  have bd:∀ {j:Nat} {y:Int},l[j]?=some y->0<=y/\y<=100000:=λ{j y} hy=>hin y (List.mem_of_getElem? hy);have b1:=bd h0;have b2:=bd hn;have a0:atI l 0=some x1:=Qn (Int.le_refl _) h0;have an:atI l (Wq ((↑(List.length l):Int)-(1:Int)))=some x2:=by
    rw[YI (by omega) (by omega)];exact Qn (by omega) (by rw[<-hn];congr 1;omega)
  unfold ZaE Zdy;simp only[a0,an,Bq];have hc1:x1<=Min.min (Max.max x x1) x2:=by omega
  have hc2:Min.min (Max.max x x1) x2<=x2:=by omega
  have hd:∀ (i0:Int),VJ l x x1 x2 i0=if (0:Int)<=i0 then
      (atI l i0).bind λx3 =>
      if Min.min (Max.max x x1) x2=x3 then
        some (.inr (i0,(1:Int),(0:Int)))
      else
        if x3<Min.min (Max.max x x1) x2 then
          (atI l (Wq (i0+(1:Int)))).bind λx4 =>
          some (.inr (i0,Wq (x4-Min.min (Max.max x x1) x2),Wq (Min.min (Max.max x x1) x2-x3)))
        else
          some (.inl (Wq (i0-(1:Int)),()))
    else
      some (.inr ((0:Int),(1:Int),(0:Int))):=λi0=>rfl
  generalize Min.min (Max.max x x1) x2=c at hc1 hc2 hd ⊢;obtain ⟨p,hp,hs⟩:=ZsI hi l4 c;rw[hs,Bq];rcases Zw4 h0 hn hc1 hc2 with ⟨j,hj⟩ | ⟨j,y,z,hj⟩
  · have hjl:=(List.getElem?_eq_some_iff.1 hj).1
    have hpj:=hp.on hi hj;subst hpj;refine ⟨(p:Int),1,0,⟨by omega,by omega,λq=>by omega,by omega,by omega,by omega⟩,?_,?_⟩
    · have key:∀ (r:Nat),p+r<l.length->Zp (λv=>VJ l x x1 x2 v.1) (((p+r:Nat):Int),())=some ((p:Int),(1:Int),(0:Int)):=by
        intro r;induction r with
        | zero =>
          intro hr;refine YL ?_;simp only[hd,Nat.add_zero,show (0:Int)<=(p:Int) from by omega,if_true,Zo];rw[hj,Bq,if_pos rfl]
        | succ r ih =>
          intro hr;have hy:l[p+(r+1)]?=some (l[p+(r+1)]'hr):=List.getElem?_eq_getElem _;generalize l[p+(r+1)]'hr=y at hy;have hlt:=Ziv hi (show p<p+(r+1) by omega) hj hy;refine (YM ?_).trans (ih (by omega));simp only[hd,show (0:Int)<=((p+(r+1):Nat):Int) from by omega,if_true,Zo,hy,Bq];rw[if_neg (by omega),if_neg (by omega),YI (by omega) (by omega),show ((p+(r+1):Nat):Int)-1=((p+r:Nat):Int) by omega]
      have:=key (l.length-1-p) (by omega);rw[show p+(l.length-1-p)=l.length-1 by omega] at this;rw[YI (by omega) (by omega),show (l.length:Int)-1=((l.length-1:Nat):Int) by omega];exact this
    · rw[if_pos (decide_eq_true (show l[p]?=some c from hj))]
      rfl
  · obtain ⟨h1,h2,h3,h4⟩:=hj
    have hjl:=(List.getElem?_eq_some_iff.1 h2).1;have hpj:=hp.btw hi ⟨h1,h2,h3,h4⟩;subst hpj;have by1:=bd h1;have bz1:=bd h2;have hne:¬l[j+1]?=some c:=λq=>by rw[h2] at q;injection q with q;omega
    refine ⟨(j:Int),z-c,c-y,⟨by omega,by omega,λq=>by omega,by omega,by omega,by omega⟩,?_,?_⟩
    · have key:∀ (r:Nat),j+r<l.length->Zp (λv=>VJ l x x1 x2 v.1) (((j+r:Nat):Int),())=some ((j:Int),z-c,c-y):=by
        intro r;induction r with
        | zero =>
          intro hr;refine YL ?_;simp only[hd,Nat.add_zero,show (0:Int)<=(j:Int) from by omega,if_true,Zo];rw[h1,Bq,if_neg (by omega),if_pos h3,Y8 (show j<=1048576 by omega),Zo,h2,Bq,YI (by omega) (by omega),YI (by omega) (by omega)]
        | succ r ih =>
          intro hr;have hw:l[j+(r+1)]?=some (l[j+(r+1)]'hr):=List.getElem?_eq_getElem _;generalize l[j+(r+1)]'hr=w at hw;have hlt:z<=w:=by
            by_cases q:r=0
            · subst q;rw[h2] at hw;injection hw with hw;omega
            · have:=Ziv hi (show j+1<j+(r+1) by omega) h2 hw;omega
          refine (YM ?_).trans (ih (by omega));simp only[hd,show (0:Int)<=((j+(r+1):Nat):Int) from by omega,if_true,Zo,hw,Bq];rw[if_neg (by omega),if_neg (by omega),YI (by omega) (by omega),show ((j+(r+1):Nat):Int)-1=((j+r:Nat):Int) by omega]
      have:=key (l.length-1-j) (by omega);rw[show j+(l.length-1-j)=l.length-1 by omega] at this;rw[YI (by omega) (by omega),show (l.length:Int)-1=((l.length-1:Nat):Int) by omega];exact this
    · rw[if_neg (by rw[decide_eq_true_eq];exact hne),Zo,h2,Bq,YI (n:=((j+1:Nat):Int)-1) (by omega) (by omega),show ((j+1:Nat):Int)-1=(j:Int) by omega,Zo,h1,Bq,YI (by omega) (by omega),YI (by omega) (by omega),YI (by omega) (by omega)]
      unfold wl;rw[if_neg (by omega)];simp only[Option.some.injEq,Prod.mk.injEq];refine ⟨?_,by omega⟩;rw[show ((j+1:Nat):Int)=(j:Int)+1 by omega]
theorem Zfr (a b m:Int):Zar a b m=Yz a b m:=by
  unfold Zar Yz;by_cases hb:b≠0
  · rw[Zn hb,Zn hb]
    by_cases h1:Int.tmod a b<0
    · have h2:¬(0:Int)<Int.tmod a b:=by omega
      by_cases m0:m=0
      · subst m0;simp only[h1,if_true]
      · by_cases m1:m=1
        · subst m1;simp[h1,h2]
        · simp only[h1,h2,m0,m1,if_true,if_false]
    · by_cases h2:(0:Int)<Int.tmod a b
      · by_cases m0:m=0
        · subst m0;simp[h1,h2]
        · by_cases m1:m=1
          · subst m1;simp[h1,h2]
          · simp only[h1,h2,m0,m1,if_true,if_false]
      · by_cases m0:m=0
        · subst m0;simp[h1,h2]
        · by_cases m1:m=1
          · subst m1;simp[h1,h2]
          · simp only[h1,h2,m0,m1,if_true,if_false]
  · simp only[Zw,if_neg hb]
theorem Zmp {a b m:Int} (hb:0<b) (ha:-4000000000000000000<=a) (ha2:a<=4000000000000000000) (hm:m=0\/m=1):∃ r,Yz a b m=some r/\∀ M:Int,0<=M->M*b<=4000000000000000000->(a<=M*b->r<=M)/\(-(M*b)<=a->-M<=r)/\(0<=a->0<=r):=by
  have e:=Int.mul_tdiv_add_tmod a b;have m1:=Int.tmod_lt_of_pos a hb;have m2:=Int.lt_tmod_of_pos a hb;have up:∀ M:Int,a<=M*b->Int.tdiv a b<=M/\(0<Int.tmod a b->Int.tdiv a b+1<=M):=λM h=>by
    constructor
    · refine Classical.byContradiction λq=>?_
      have:=Int.mul_le_mul_of_nonneg_left (show M+1<=Int.tdiv a b by omega) (show 0<=b by omega);rw[Int.mul_add,Int.mul_one,Int.mul_comm b M] at this;omega
    · intro h2
      refine Classical.byContradiction λq=>?_;have:=Int.mul_le_mul_of_nonneg_left (show M<=Int.tdiv a b by omega) (show 0<=b by omega);rw[Int.mul_comm b M] at this;omega
  have lo:∀ M:Int,-(M*b)<=a->-M<=Int.tdiv a b/\(Int.tmod a b<0->-M<=Int.tdiv a b-1):=λM h=>by
    constructor
    · refine Classical.byContradiction λq=>?_
      have:=Int.mul_le_mul_of_nonneg_left (show Int.tdiv a b<=-(M+1) by omega) (show 0<=b by omega);rw[Int.mul_neg,Int.mul_add,Int.mul_one,Int.mul_comm b M] at this;omega
    · intro h2
      refine Classical.byContradiction λq=>?_;have:=Int.mul_le_mul_of_nonneg_left (show Int.tdiv a b<=-M by omega) (show 0<=b by omega);rw[Int.mul_neg,Int.mul_comm b M] at this;omega
  have big:Int.tdiv a b<=4000000000000000000/\-4000000000000000000<=Int.tdiv a b:=by
    have h1:(4000000000000000000:Int)<=4000000000000000000*b:=by omega
    have:=up 4000000000000000000 (by omega);have:=lo 4000000000000000000 (by omega);omega
  have nn:0<=a->0<=Int.tdiv a b/\¬Int.tmod a b<0:=λh=>by
    have:=Int.tmod_nonneg b h;have:=Int.tdiv_nonneg h (show 0<=b by omega);omega
  unfold Yz;rw[Zn (by omega),YI (n:=Int.tdiv a b) (by omega) (by omega)];by_cases h1:Int.tmod a b<0
  · rw[if_pos h1]
    by_cases m0:m=0
    · rw[if_pos m0,YI (by omega) (by omega)]
      refine ⟨_,rfl,λM h0 hM=>⟨λh=>?_,λh=>?_,λh=>absurd h1 (nn h).2⟩⟩
      · have:=(up M h).1;omega
      · exact (lo M h).2 h1
    · rw[if_neg m0,if_neg (show ¬(0:Int)<Int.tmod a b by omega)]
      exact ⟨_,rfl,λM h0 hM=>⟨λh=>(up M h).1,λh=>(lo M h).1,λh=>(nn h).1⟩⟩
  · rw[if_neg h1]
    by_cases h2:(0:Int)<Int.tmod a b
    · rw[if_pos h2]
      by_cases m1':m=1
      · rw[if_pos m1',YI (by omega) (by omega)]
        refine ⟨_,rfl,λM h0 hM=>⟨λh=>(up M h).2 h2,λh=>?_,λh=>?_⟩⟩
        · have:=(lo M h).1;omega
        · have:=(nn h).1;omega
      · rw[if_neg m1']
        exact ⟨_,rfl,λM h0 hM=>⟨λh=>(up M h).1,λh=>(lo M h).1,λh=>(nn h).1⟩⟩
    · rw[if_neg h2]
      exact ⟨_,rfl,λM h0 hM=>⟨λh=>(up M h).1,λh=>(lo M h).1,λh=>(nn h).1⟩⟩
def Zja (t:Zx) (i k:Int):Int:=(atI (Zx.Values t) (i*((Zx.Loads t).length:Int)+k)).getD 0
def tm (t:Zx) (i k a c:Int):Int:=if 0<a*c then Zja t i k*(a*c) else 0
theorem Zm5 {t:Zx} (h:Q0 t) {i k:Int} (i0:0<=i) (i1:i<(Zx.Zew t).length) (k0:0<=k) (k1:k<(Zx.Loads t).length) :
    atI (Zx.Values t) (i*((Zx.Loads t).length:Int)+k)=some (Zja t i k)/\(-1000000<=Zja t i k/\Zja t i k<=1000000)/\0<=i*((Zx.Loads t).length:Int)/\i*((Zx.Loads t).length:Int)<=16:=by
  obtain ⟨h1,h2,h3,h4⟩:=h;have b:=Zf2 i0 (show i<=4 by have:=h1.2.1;omega) (show (0:Int)<=((Zx.Loads t).length:Int) by omega) (show ((Zx.Loads t).length:Int)<=4 by have:=h2.2.1;omega);have hlt:i*((Zx.Loads t).length:Int)+k<(Zx.Values t).length:=by
    have e:=Int.mul_le_mul_of_nonneg_right (show i+1<=((Zx.Zew t).length:Int) by omega) (show (0:Int)<=((Zx.Loads t).length:Int) by omega);rw[Int.add_mul,Int.one_mul] at e;rw[h3,Int.natCast_mul];omega
  obtain ⟨x,hx,hx2⟩:=ZlH (l:=Zx.Values t) (i:=i*((Zx.Loads t).length:Int)+k) (by omega) hlt;have hm:=h4 x (List.mem_of_getElem? hx2);have e:Zja t i k=x:=by unfold Zja;rw[hx];rfl
  rw[e];exact ⟨hx,hm,by omega,by omega⟩
theorem Zo4 {t:Zx} (h:Q0 t) {i k a c:Int} (hi:0<a->0<=i/\i<(Zx.Zew t).length) (hk:0<c->0<=k/\k<(Zx.Loads t).length) (a0:0<=a) (c0:0<=c):-(1000000*(a*c))<=tm t i k a c/\tm t i k a c<=1000000*(a*c):=by
  unfold tm;by_cases q:0<a*c
  · rw[if_pos q]
    have ha:0<a:=by
      refine Classical.byContradiction λz=>?_;rw[show a=0 by omega,Int.zero_mul] at q;omega
    have hc:0<c:=by
      refine Classical.byContradiction λz=>?_;rw[show c=0 by omega,Int.mul_zero] at q;omega
    obtain ⟨_,⟨b1,b2⟩,_⟩:=Zm5 h (hi ha).1 (hi ha).2 (hk hc).1 (hk hc).2;exact ZkG b1 b2 (by omega)
  · rw[if_neg q]
    have:=Int.mul_nonneg a0 c0;omega
theorem Zwd {t:Zx} {i k a:Int}:tm t i k a 0=0:=by unfold tm;rw[Int.mul_zero,if_neg (by omega)]
theorem Zqh {t:Zx} {i k c:Int}:tm t i k 0 c=0:=by unfold tm;rw[Int.zero_mul,if_neg (by omega)]
def Zrd (t:Zx) (j a b k c d:Int):Int:=tm t j k a c+tm t j (k+1) a d+(tm t (j+1) k b c+tm t (j+1) (k+1) b d)
theorem Zkw {t:Zx} (h:Q0 t) {w:List J6×Int} {v1 i A s v3 k c:Int} (i0:0<=i) (i1:i<(Zx.Zew t).length) (A0:0<A) (A1:A<=100000) (hk:atI w.1 v3=some (k,c,())) (hv:v3<w.1.length) (hv2:v3<=10) (hv0:0<=v3) (k0:0<=k) (k1:k<(Zx.Loads t).length) (c0:0<c) (c1:c<=100000) (s1:-100000000000000000<=s) (s2:s<=100000000000000000) :
    Xh t w v1 (i,A,()) s v3=some (.inl (s+tm t i k A c,v3+1,())):=by
  obtain ⟨hx,⟨b1,b2⟩,b3,b4⟩:=Zm5 h i0 i1 k0 k1;have l4:=h.2.1.2.1;have p:=Zf2 (show 0<=A by omega) A1 (show 0<=c by omega) c1;have pp:0<A*c:=Int.mul_pos A0 c0;have q:=ZkG b1 b2 (show 0<=A*c by omega);have q1:=ZkG b1 b2 (show 0<=A by omega);have e:tm t i k A c=Zja t i k*(A*c):=by unfold tm;rw[if_pos pp]
  simp only[Xh,if_pos hv,hk,Bq];show (atI (Zx.Values t) (Wq (Wq (i*((Zx.Loads t).length:Int))+k))).bind _=_;rw[YI (n:=i*((Zx.Loads t).length:Int)) (by omega) (by omega),YI (n:=i*((Zx.Loads t).length:Int)+k) (by omega) (by omega),hx,Bq];show some (Sum.inl (Wq (s+Wq (Wq (Zja t i k*A)*c)),Wq (v3+1),()))=_;rw[YI (n:=Zja t i k*A) (by omega) (by omega),Int.mul_assoc,YI (n:=Zja t i k*(A*c)) (by omega) (by omega),YI (n:=s+Zja t i k*(A*c)) (by omega) (by omega),YI (n:=v3+1) (by omega) (by omega),e]
theorem ZpE {t:Zx} {w:List J6×Int} {v1 s v3:Int} {x:J6} (hv:v3=w.1.length):Xh t w v1 x s v3=some (.inr (.inl (s,Wq (v1+1),()))):=by
  simp only[Xh,if_neg (show ¬v3<(w.1.length:Int) by omega)]
theorem ZpF {t:Zx} (h:Q0 t) {w:List J6×Int} {k c d:Int} (hw:w.1=wl k c d) (hk:Zxw (Zx.Loads t) k c d) {v1 i A s:Int} (i0:0<=i) (i1:i<(Zx.Zew t).length) (A0:0<A) (A1:A<=100000) (s1:-50000000000000000<=s) (s2:s<=50000000000000000) :
    Zp (λv=>Xh t w v1 (i,A,()) v.1 v.2.1) (s,(0:Int),())=some (.inl (s+(tm t i k A c+tm t i (k+1) A d),Wq (v1+1),())):=by
  have hab:=hk.ab;have ha0:=hk.a0;have hb0:=hk.b0;have hj0:=hk.j0;have hjl:=hk.jl;have p:=Zf2 (show 0<=A by omega) A1 (show 0<=c by omega) (show c<=100000 by omega);have q:=Zo4 h (i:=i) (k:=k) (a:=A) (c:=c) (λ_=>⟨i0,i1⟩) (λ_=>⟨hj0,hjl⟩) (by omega) (by omega);unfold wl at hw;by_cases hd:d=0
  · rw[if_pos hd] at hw
    subst hd;refine (YM (v':=(s+tm t i k A c,(1:Int),())) ?_).trans (YL ?_)
    · exact Zkw (s:=s) (v3:=0) h i0 i1 A0 A1 (by rw[hw];rfl) (by rw[hw];show (0:Int)<((1:Nat):Int);omega) (by omega) (by omega) hj0 hjl ha0 (by omega) (by omega) (by omega)
    · rw[Zwd,Int.add_zero]
      exact ZpE (by rw[hw];rfl)
  · rw[if_neg hd] at hw
    have hjb:=hk.jb (by omega);refine (YM (v':=(s+tm t i k A c,(1:Int),())) ?_).trans ((YM (v':=(s+tm t i k A c+tm t i (k+1) A d,(2:Int),())) ?_).trans (YL ?_))
    · exact Zkw (s:=s) (v3:=0) h i0 i1 A0 A1 (by rw[hw];rfl) (by rw[hw];show (0:Int)<((2:Nat):Int);omega) (by omega) (by omega) hj0 hjl ha0 (by omega) (by omega) (by omega)
    · exact Zkw (s:=s+tm t i k A c) (v3:=1) h i0 i1 A0 A1 (by rw[hw];rfl) (by rw[hw];show (1:Int)<((2:Nat):Int);omega) (by omega) (by omega) (by omega) hjb (by omega) (by omega) (by omega) (by omega)
    · rw[<-Int.add_assoc]
      exact ZpE (by rw[hw];rfl)
theorem Zn6 {t:Zx} (h:Q0 t) {j k:Int} {v1 v3 s W1 a c:Int} (hv1:v1=0\/v1=1) (hv3:v3=0\/v3=1) (hj:0<=j) (hj1:0<a->j+v1<(Zx.Zew t).length) (hj4:j<=4) (hk:0<=k) (hk1:0<c->k+v3<(Zx.Loads t).length) (a0:0<=a) (a1:a<=100000) (c0:0<=c) (c1:c<=100000) (s1:-100000000000000000<=s) (s2:s<=100000000000000000) :
    (if (0:Int)<Wq (a*c) then
          (atI (Zx.Values t) (Wq (Wq (Wq (Wq (j+v1)*(↑(List.length (Zx.Loads t)):Int))+k)+v3))).bind λx0 =>
          some (Sum.inl (Wq (s+Wq (Wq (a*c)*x0)),Wq (v3+(1:Int)),()))
        else
          some (.inl (s,Wq (v3+(1:Int)),())):Option ((Int×Int×Unit) ⊕ ((Int×Int×Unit) ⊕ Int)))=some (.inl (s+tm t (j+v1) (k+v3) a c,v3+1,())):=by
  have p:=Zf2 a0 a1 c0 c1;rw[YI (n:=a*c) (by omega) (by omega),YI (n:=v3+1) (by omega) (by omega)];by_cases pp:0<a*c
  · have ha:0<a:=by
      refine Classical.byContradiction λz=>?_;rw[show a=0 by omega,Int.zero_mul] at pp;omega
    have hc:0<c:=by
      refine Classical.byContradiction λz=>?_;rw[show c=0 by omega,Int.mul_zero] at pp;omega
    obtain ⟨hx,⟨b1,b2⟩,b3,b4⟩:=Zm5 h (i:=j+v1) (k:=k+v3) (by omega) (hj1 ha) (by omega) (hk1 hc);have l4:=h.2.1.2.1;have kk:=hk1 hc;have q:=ZkG b1 b2 (show 0<=a*c by omega);rw[if_pos pp,YI (n:=j+v1) (by omega) (by omega),YI (n:=(j+v1)*((Zx.Loads t).length:Int)) (by omega) (by omega),YI (n:=(j+v1)*((Zx.Loads t).length:Int)+k) (by omega) (by omega),Int.add_assoc,YI (n:=(j+v1)*((Zx.Loads t).length:Int)+(k+v3)) (by omega) (by omega),hx,Bq];unfold tm;rw[if_pos pp,Int.mul_comm (a*c),YI (n:=Zja t (j+v1) (k+v3)*(a*c)) (by omega) (by omega),YI (by omega) (by omega)]
  · rw[if_neg pp]
    unfold tm;rw[if_neg pp,Int.add_zero]
theorem Zqd {t:Zx} (h:Q0 t) {j a b k c d:Int} (hj:Zxw (Zx.Zew t) j a b) (hk:Zxw (Zx.Loads t) k c d) {v1 s A:Int} (hv:v1=0/\A=a\/v1=1/\A=b) (s1:-50000000000000000<=s) (s2:s<=50000000000000000) :
    Zp (λv=>Xv t (j,a,b) (k,c,d) v1 v.1 v.2.1) (s,(0:Int),())=some (.inl (s+(tm t (j+v1) k A c+tm t (j+v1) (k+1) A d),Wq (v1+1),())):=by
  have j1:=hj.ab;have j2:=hj.a0;have j3:=hj.b0;have j4:=hj.j0;have j5:=hj.jl;have j6:=hj.jb;have k1:=hk.ab;have k2:=hk.a0;have k3:=hk.b0;have k4:=hk.j0;have k5:=hk.jl;have k6:=hk.jb;have l4:=h.1.2.1;have A0:0<=A/\A<=100000/\(0<A->j+v1<(Zx.Zew t).length)/\0<=j+v1:=by
    rcases hv with ⟨rfl,rfl⟩ | ⟨rfl,rfl⟩
    · exact ⟨by omega,by omega,λ_=>by omega,by omega⟩
    · exact ⟨by omega,by omega,λq=>j6 q,by omega⟩
  obtain ⟨A1,A2,A3,A4⟩:=A0;have p:=Zf2 A1 A2 (show 0<=c by omega) (show c<=100000 by omega);have q:=Zo4 h (i:=j+v1) (k:=k) (a:=A) (c:=c) (λz=>⟨A4,A3 z⟩) (λ_=>⟨k4,k5⟩) A1 (by omega);have p2:=Zf2 A1 A2 (show 0<=d by omega) (show d<=100000 by omega);have q2:=Zo4 h (i:=j+v1) (k:=k+1) (a:=A) (c:=d) (λz=>⟨A4,A3 z⟩) (λz=>⟨by omega,k6 z⟩) A1 (by omega);have hv1:v1=0\/v1=1:=by omega
  refine (YM (v':=(s+tm t (j+v1) (k+0) A c,0+1,())) ?_).trans ((YM (v':=(s+tm t (j+v1) (k+0) A c+tm t (j+v1) (k+1) A d,1+1,())) ?_).trans (YL ?_))
  · have e:=Zn6 h (v1:=v1) (v3:=0) (s:=s) (W1:=0) (a:=A) (c:=c) hv1 (.inl rfl) j4 A3 (by omega) k4 (λ_=>by omega) A1 A2 (by omega) (by omega) (by omega) (by omega)
    show Xv t (j,a,b) (k,c,d) v1 s 0=_;unfold Xv;rw[if_pos (by decide)];rcases hv with ⟨rfl,rfl⟩ | ⟨rfl,rfl⟩
    · rw[if_neg (by decide),if_pos rfl];exact e
    · rw[if_pos rfl,if_pos rfl];exact e
  · rw[Int.add_zero]
    have e:=Zn6 h (v1:=v1) (v3:=1) (s:=s+tm t (j+v1) k A c) (W1:=0) (a:=A) (c:=d) hv1 (.inr rfl) j4 A3 (by omega) k4 (λz=>k6 z) A1 A2 (by omega) (by omega) (by omega) (by omega);show Xv t (j,a,b) (k,c,d) v1 (s+tm t (j+v1) k A c) 1=_;unfold Xv;rw[if_pos (by decide)];rcases hv with ⟨rfl,rfl⟩ | ⟨rfl,rfl⟩
    · rw[if_neg (by decide),if_neg (by decide)];exact e
    · rw[if_pos rfl,if_neg (by decide)];exact e
  · rw[Int.add_zero]
    show Xv t (j,a,b) (k,c,d) v1 (s+tm t (j+v1) k A c+tm t (j+v1) (k+1) A d) 2=_;unfold Xv;rw[if_neg (by decide),Int.add_assoc]
theorem look_eq {t:Zx} (h:Q0 t) (s l:Int) {m:Int} (hm:m=0\/m=1):∃ r,Je t s l m=some r/\ZaD t s l m=some r/\-1000000<=r/\r<=1000000:=by
  obtain ⟨j,a,b,hj,e1,e2⟩:=Zl7 h.1 s;obtain ⟨k,c,d,hk,e3,e4⟩:=Zl7 h.2.1 l;have j1:=hj.ab;have j2:=hj.a0;have j3:=hj.b0;have j4:=hj.j0;have j5:=hj.jl;have j6:=hj.jb;have k1:=hk.ab;have k2:=hk.a0;have k3:=hk.b0;have k4:=hk.j0;have k5:=hk.jl;have k6:=hk.jb;have p1:=Zf2 (show 0<=a by omega) (show a<=100000 by omega) (show 0<=c by omega) (show c<=100000 by omega);have p2:=Zf2 (show 0<=a by omega) (show a<=100000 by omega) (show 0<=d by omega) (show d<=100000 by omega);have p3:=Zf2 (show 0<=b by omega) (show b<=100000 by omega) (show 0<=c by omega) (show c<=100000 by omega);have p4:=Zf2 (show 0<=b by omega) (show b<=100000 by omega) (show 0<=d by omega) (show d<=100000 by omega);have pp:=Int.mul_pos j2 k2;have q1:=Zo4 h (i:=j) (k:=k) (a:=a) (c:=c) (λ_=>⟨j4,j5⟩) (λ_=>⟨k4,k5⟩) (by omega) (by omega);have q2:=Zo4 h (i:=j) (k:=k+1) (a:=a) (c:=d) (λ_=>⟨j4,j5⟩) (λz=>⟨by omega,k6 z⟩) (by omega) (by omega);have q3:=Zo4 h (i:=j+1) (k:=k) (a:=b) (c:=c) (λz=>⟨by omega,j6 z⟩) (λ_=>⟨k4,k5⟩) (by omega) (by omega);have q4:=Zo4 h (i:=j+1) (k:=k+1) (a:=b) (c:=d) (λz=>⟨by omega,j6 z⟩) (λz=>⟨by omega,k6 z⟩) (by omega) (by omega);have eT:(a+b)*(c+d)=a*c+a*d+(b*c+b*d):=by rw[Int.add_mul,Int.mul_add,Int.mul_add]
  obtain ⟨r,hr,hb⟩:=Zmp (a:=Zrd t j a b k c d) (b:=(a+b)*(c+d)) (m:=m) (by omega) (by unfold Zrd;omega) (by unfold Zrd;omega) hm;have hbd:=hb 1000000 (by omega) (by omega);refine ⟨r,?_,?_,hbd.2.1 (by unfold Zrd;omega),hbd.1 (by unfold Zrd;omega)⟩
  · have fin:∀ v1:Int,v1=(wl j a b).length->Ym t m (wl j a b,a+b) (wl k c d,c+d) (Zrd t j a b k c d) v1=some (.inr r):=λv1 hv=>by
      simp only[Ym,hv,Int.lt_irrefl,if_false];rw[YI (n:=(a+b)*(c+d)) (by omega) (by omega),Zfr,hr,Bq]
    unfold Je;rw[e2,e4,Bq,Bq];have r1:=ZpF h (w:=(wl k c d,c+d)) (v1:=0) (i:=j) (A:=a) (s:=0) rfl hk j4 j5 j2 (by omega) (by omega) (by omega);by_cases hz:b=0
    · have ew:wl j a b=[(j,a,())]:=by unfold wl;rw[if_pos hz]
      refine (YM (v':=(Zrd t j a b k c d,(1:Int),())) ?_).trans (YL (fin 1 (by rw[ew];rfl)));show Ym t m (wl j a b,a+b) (wl k c d,c+d) 0 0=_;unfold Ym;rw[if_pos (by rw[ew];show (0:Int)<((1:Nat):Int);omega),show atI (wl j a b,a+b).fst (0:Int)=some (j,a,()) by rw[ew];rfl,Bq];refine r1.trans ?_;unfold Zrd;rw[hz,Zqh,Zqh,Int.add_zero,Int.add_zero,Int.zero_add];rfl
    · have ew:wl j a b=[(j,a,()),(j+1,b,())]:=by unfold wl;rw[if_neg hz]
      have r2:=ZpF h (w:=(wl k c d,c+d)) (v1:=1) (i:=j+1) (A:=b) (s:=tm t j k a c+tm t j (k+1) a d) rfl hk (by omega) (j6 (by omega)) (by omega) (by omega) (by omega) (by omega);refine (YM (v':=(tm t j k a c+tm t j (k+1) a d,(1:Int),())) ?_).trans ((YM (v':=(Zrd t j a b k c d,(2:Int),())) ?_).trans (YL (fin 2 (by rw[ew];rfl))))
      · show Ym t m (wl j a b,a+b) (wl k c d,c+d) 0 0=_
        unfold Ym;rw[if_pos (by rw[ew];show (0:Int)<((2:Nat):Int);omega),show atI (wl j a b,a+b).fst (0:Int)=some (j,a,()) by rw[ew];rfl,Bq];refine r1.trans ?_;rw[Int.zero_add];rfl
      · show Ym t m (wl j a b,a+b) (wl k c d,c+d) (tm t j k a c+tm t j (k+1) a d) 1=_
        unfold Ym;rw[if_pos (by rw[ew];show (1:Int)<((2:Nat):Int);omega),show atI (wl j a b,a+b).fst (1:Int)=some (j+1,b,()) by rw[ew];rfl,Bq];exact r2
  · unfold ZaD
    rw[e1,e3,Bq,Bq];have r1:=Zqd h hj hk (v1:=0) (s:=0) (A:=a) (.inl ⟨rfl,rfl⟩) (by omega) (by omega);have r2:=Zqd h hj hk (v1:=1) (s:=tm t j k a c+tm t j (k+1) a d) (A:=b) (.inr ⟨rfl,rfl⟩) (by omega) (by omega);refine (YM (v':=(tm t j k a c+tm t j (k+1) a d,(1:Int),())) ?_).trans ((YM (v':=(Zrd t j a b k c d,(2:Int),())) ?_).trans (YL ?_))
    · show X9 t m (j,a,b) (k,c,d) 0 0=_
      unfold X9;rw[if_pos (by decide)];refine r1.trans ?_;rw[Int.add_zero,Int.zero_add];rfl
    · show X9 t m (j,a,b) (k,c,d) (tm t j k a c+tm t j (k+1) a d) 1=_
      unfold X9;rw[if_pos (by decide)];exact r2
    · show X9 t m (j,a,b) (k,c,d) (Zrd t j a b k c d) 2=_
      unfold X9;rw[if_neg (by decide)];show (Yz (Zrd t j a b k c d) (Wq (Wq (a+b)*Wq (c+d))) m).bind _=_;rw[YI (n:=a+b) (by omega) (by omega),YI (n:=c+d) (by omega) (by omega),YI (n:=(a+b)*(c+d)) (by omega) (by omega),hr];rfl
def sdl (w:Zq) (ld:List Int) (y:Int):Int:=(atI (ndl w ld) y).getD 0
theorem Zom.sink {b:Zc} {k:Nat} {w:Zq} {ld:List Int} (h:Zom b k w ld) {y:Int} (hy:y∈Zq.Zc0 w):atI (ndl w ld) y=some (sdl w ld y)/\0<=sdl w ld y/\sdl w ld y<=301000000:=by
  have hs:=h.snk y hy;obtain ⟨x,h1,h2⟩:=Zfm (l:=ndl w ld) hs.1 (by rw[h.len];omega);have hb:=h.bd x h2;have e:sdl w ld y=x:=by unfold sdl;rw[h1];rfl
  rw[e];exact ⟨h1,hb⟩
theorem Zlh {b:Zc} {k:Nat} {w:Zq} {ld:List Int} (h:Zom b k w ld):Y2 b (k:Int)=some ((Zq.Zc0 w).map (sdl w ld)):=by
  unfold Y2;rw[ZoG h,Bq,Zo,h.wire,Bq];have hf:=h.few;refine ZpR (l:=Zq.Zc0 w) (by unfold Len;omega) (λo i=>(o,i,())) (g:=sdl w ld) (s0:=[]) (λm y hy s hs=>?_) ?_
  · have hm:=(List.getElem?_eq_some_iff.1 hy).1
    have hl:s.length<=1048576:=by rw[hs,List.length_append,List.length_map,List.length_take,List.length_nil];omega
    simp only[Y5,show (m:Int)<((Zq.Zc0 w).length:Int) from by omega,if_true,Zo,hy,(h.sink (List.mem_of_getElem? hy)).1,Bq];rw[Zn (by simp only[List.length_cons,List.length_nil];omega)]
  · simp only[Y5,Int.lt_irrefl,if_false,List.nil_append]
theorem ZmV {b:Zc} {k:Nat} {w:Zq} {ld:List Int} (h:Zom b k w ld) {mode:Int} (hm:mode=0\/mode=1):∃ f:Int->Int,(∀ y∈Zq.Zc0 w,Yz (sdl w ld y) 1000 mode=some (f y)/\0<=f y/\f y<=301000)/\Zaj b (k:Int) mode=some ((Zq.Zc0 w).map f):=by
  have hf:=h.few;have key:∀ y∈Zq.Zc0 w,Yz (sdl w ld y) 1000 mode=some ((Yz (sdl w ld y) 1000 mode).getD 0)/\0<=(Yz (sdl w ld y) 1000 mode).getD 0/\(Yz (sdl w ld y) 1000 mode).getD 0<=301000:=λy hy=>by
    have hs:=(h.sink hy).2;obtain ⟨r,hr,hb⟩:=Zmp (a:=sdl w ld y) (b:=1000) (m:=mode) (by omega) (by omega) (by omega) hm;have:=hb 301000 (by omega) (by omega);rw[hr];exact ⟨rfl,this.2.2 hs.1,this.1 (by omega)⟩
  refine ⟨λy=>(Yz (sdl w ld y) 1000 mode).getD 0,key,?_⟩;unfold Zaj;rw[ZkW h,Bq];refine ZpR (l:=Zq.Zc0 w) (by unfold Len;omega) (λo i=>(o,i,())) (g:=λy=>(Yz (sdl w ld y) 1000 mode).getD 0) (s0:=[]) (λm y hy s hs=>?_) ?_
  · have hm:=(List.getElem?_eq_some_iff.1 hy).1
    have hl:s.length<=1048576:=by rw[hs,List.length_append,List.length_map,List.length_take,List.length_nil];omega
    simp only[Ji,Zo,h.wire,show (m:Int)<((Zq.Zc0 w).length:Int) from by omega,if_true,hy,(h.sink (List.mem_of_getElem? hy)).1,Bq];rw[(key y (List.mem_of_getElem? hy)).1,Bq,Zn (by simp only[List.length_cons,List.length_nil];omega)];rfl
  · simp only[Ji,Zo,h.wire,Bq,Int.lt_irrefl,if_false,List.nil_append]
theorem Zi0 {α:Type} {p:α->Bool} {l:List α} {k:Nat} {x:α} (hx:l[k]?=some x) (hp:p x=true) (hf:∀ (j:Nat) (y:α),j<k->l[j]?=some y->p y=false):Zb3 p l=(k:Int):=by
  have hk:=(List.getElem?_eq_some_iff.1 hx);have:l.findIdx? p=some k:=by
    rw[List.findIdx?_eq_some_iff_getElem];refine ⟨hk.1,by rw[hk.2];exact hp,λj hj=>?_⟩;have:=hf j (l[j]'(by have:=hk.1;omega)) hj (List.getElem?_eq_getElem _);simp[this]
  unfold Zb3;rw[this]
theorem ZiP (d:Zd) (n:Int) (h:Few d):Zbn d n=some (Zb3 (λx:Pl=>decide (x.2.2.1=n)&&x.2.2.2.1) (places d)):=by
  have hpl:=YK h;unfold Zbn;rw[YW d h,Bq];refine J4 (out:=λi=>i) (show Len (places d) by show List.length _<=_;omega) (λk x hx=>?_) ?_
  · have hk:=(List.getElem?_eq_some_iff.1 hx).1
    simp only[Zba,show (k:Int)<((places d).length:Int) from by omega,if_true,Zo,hx,Bq,Bool.and_eq_true,decide_eq_true_eq];split
    · rename_i e1
      split
      · rename_i e2;rw[if_pos ⟨e1,e2⟩]
      · rename_i e2;rw[if_neg (λq=>e2 q.2)]
    · rename_i e1;rw[if_neg (λq=>e1 q.1)]
  · simp only[Zba,Int.lt_irrefl,if_false]
theorem Zoy {i:Nat} {x:Zi} {a:Zy} {d:Zd} (hl:Znd a) (h:ZfW a d x) (hsm:(Zi.YQ x).length<=1048576):((VY i x).filter (λy=>y.2.2.2.1)).map (λy=>y.2.2.1)=[Zaw x]:=by
  obtain ⟨_,⟨c,hc,hn⟩,_⟩:=h;have h2:2<=(Zl.YD c).length:=(hl.2.1 c (List.mem_of_getElem? hc)).2.1.1;unfold VY Zaw;rw[ZgW hsm (by omega)];generalize hN:Zi.YQ x=l;rw[hN] at hn;have hne:l.length≠0:=by omega
  have gen:∀ (l:List Int) (m n:Nat),m+l.length=n+1->l.length≠0->((cat (λj n'=>[((i:Int),(j:Int),n',decide ((j:Int)=((n:Nat):Int)),())]) m l).filter (λy:Pl=>y.2.2.2.1)).map (λy=>y.2.2.1)=[l.getLastD 0]:=by
    intro l;induction l with
    | nil=>intro m n _ h0;simp at h0
    | cons y r ih =>
      intro m n hm _;by_cases hr:r=[]
      · subst hr
        simp only[List.length_cons,List.length_nil] at hm;have:(m:Int)=(n:Int):=by omega
        simp[cat,this]
      · have hrl:r.length≠0:=λe=>hr (List.eq_nil_of_length_eq_zero e)
        simp only[List.length_cons] at hm;have hmn:¬(m:Int)=(n:Int):=by omega
        have:=ih (m+1) n (by omega) hrl;simp only[cat,List.cons_append,List.nil_append];rw[List.filter_cons_of_neg (by simp[hmn]),this];cases r with
        | nil=>exact absurd rfl hr
        | cons z q=>simp[List.getLastD_cons]
  exact gen l 0 (l.length-1) (by omega) hne
theorem Zoz (j:Nat) (p:Yr):((Zfc j p).filter (λy=>y.2.2.2.1)).map (λy=>y.2.2.1)=if Yr.Dir p=1 then [Yr.Net p] else []:=by
  unfold Zfc;by_cases h:Yr.Dir p=1
  · simp[h]
  · simp[h]
theorem Zqw {a:Zy} {d:Zd} (h:Zac a d) (hsm:sm Xq d):((places d).filter (λy=>y.2.2.2.1)).map (λy=>y.2.2.1)=ZxE d:=by
  unfold places ZxE;rw[List.filter_append,List.map_append];congr 1
  · have:∀ (l:List Zi) (m:Nat),(∀ x∈l,ZfW a d x/\(Zi.YQ x).length<=1048576)->((cat VY m l).filter (λy=>y.2.2.2.1)).map (λy=>y.2.2.1)=l.map Zaw:=by
      intro l;induction l with
      | nil=>intro m _;rfl
      | cons x r ih =>
        intro m hl;have hx:=hl x (by simp);simp only[cat,List.filter_append,List.map_append,List.map_cons];rw[Zoy h.1 hx.1 hx.2,ih (m+1) (λy hy=>hl y (by simp[hy]))];rfl
    exact this _ 0 (λx hx=>⟨h.2.2.1 x hx,ZF (Zl0 (Zn4 (ZfJ hsm).1 hx)).2⟩)
  · have:∀ (l:List Yr) (m:Nat),((cat Zfc m l).filter (λy=>y.2.2.2.1)).map (λy=>y.2.2.1)=(l.filter (λp=>decide (Yr.Dir p=1))).map Yr.Net:=by
      intro l;induction l with
      | nil=>intro m;rfl
      | cons p r ih =>
        intro m;simp only[cat,List.filter_append,List.map_append];rw[Zoz,ih (m+1)];by_cases hd:Yr.Dir p=1
        · simp[hd]
        · simp[hd]
    exact this _ 0
theorem ZlK {α:Type} {p:α->Bool} {l:List α} {i j:Nat} {a b:α} (hij:i<j) (ha:l[i]?=some a) (hb:l[j]?=some b) (pa:p a=true) (pb:p b=true):2<=l.countP p:=by
  have e:l.countP p=(l.take j).countP p+(l.drop j).countP p:=by rw[<-List.countP_append,List.take_append_drop]
  have h1:0<(l.take j).countP p:=List.countP_pos_iff.2 ⟨a,List.mem_iff_getElem?.2 ⟨i,by rw[List.getElem?_take,if_pos hij];exact ha⟩,pa⟩;have h2:0<(l.drop j).countP p:=List.countP_pos_iff.2 ⟨b,List.mem_iff_getElem?.2 ⟨0,by rw[List.getElem?_drop];exact hb⟩,pb⟩;omega
def Zpo (n:Int) (x:Pl):Bool:=decide (x.2.2.1=n)&&x.2.2.2.1
def Zfs (d:Zd) (n:Int):Int:=Zb3 (Zpo n) (places d)
theorem ZrO {a:Zy} {d:Zd} (h:Zac a d) (hsm:sm Xq d) {v:Nat} (hv:v<(Zd.YQ d).length):(places d).countP (Zpo (v:Int))=1:=by
  have h1:=h.2.2.2.2 _ (List.mem_of_getElem? (ZhE (s:=ZxE d) hv));rw[<-Zqw h hsm,List.countP_map,List.countP_filter] at h1;have e:(places d).countP (Zpo (v:Int))=(places d).countP (λy=>((λx=>decide (x=(v:Int)))∘λy:Pl=>y.2.2.1) y&&y.2.2.2.1):=rfl;rw[e];omega
theorem Zpp {a:Zy} {d:Zd} (h:Zac a d) (hsm:sm Xq d) {v:Nat} (hv:v<(Zd.YQ d).length) :
    ∃ (q:Nat) (y:Pl),(places d)[q]?=some y/\Zpo (v:Int) y=true/\Zfs d (v:Int)=(q:Int)/\∀ (p:Nat) (z:Pl),(places d)[p]?=some z->Zpo (v:Int) z=true->p=q:=by
  have hc:=ZrO h hsm hv;obtain ⟨y,hy,hp⟩:=List.countP_pos_iff.1 (show 0<(places d).countP (Zpo (v:Int)) by omega);obtain ⟨q,hq⟩:=List.mem_iff_getElem?.1 hy;have uniq:∀ (p:Nat) (z:Pl),(places d)[p]?=some z->Zpo (v:Int) z=true->p=q:=by
    intro p z hz hpz;rcases Nat.lt_trichotomy p q with hlt | he | hlt
    · have:=ZlK hlt hz hq hpz hp;omega
    · exact he
    · have:=ZlK hlt hq hz hp hpz;omega
  refine ⟨q,y,hq,hp,Zi0 hq hp (λj z hj hz=>?_),uniq⟩;cases hb:Zpo (v:Int) z
  · rfl
  · have:=uniq j z hz hb;omega
theorem Zj6 {b:Zc} (h:XT b) {k:Nat} {w:Zq} (hw:(Zc.Yw b)[k]?=some w):∃ r,Y2 b (k:Int)=some r/\r.length<=1048576:=by
  have hW:=h.ok.2.2 k w hw;obtain ⟨⟨l1,l8⟩,lr,lc,ls,ht,ar,ac,asn⟩:=hW;obtain ⟨nl,hnl,hnl2⟩:=Zh0 h hw;have hsm:=ZF (Zn2 (Zf4 (Zhp h.sm).2.2 hw)).2.2.2;have hnd:∃ r,XJ b (k:Int)=some r/\r.length=(Zq.Parent w).length:=by
    unfold XJ;rw[Zo,hw,Bq,hnl,Bq,Zn (by omega),Zn (by omega),Zn (by omega),Zn (by omega)];refine ZdH ((Zq.Parent w).length-1) (λm v=>v.1=((m+1:Nat):Int)/\v.2.1.length=(Zq.Parent w).length) _ ⟨rfl,by simp[hnl2]⟩ ?_ ?_
    · rintro m ⟨i,l,⟨⟩⟩ hm ⟨hi,hl⟩
      simp only at hi hl;subst hi;left;have hp:(Zq.Parent w)[m+1]?=some (Zq.Parent w)[m+1]:=List.getElem?_eq_getElem (by omega);generalize (Zq.Parent w)[m+1]=p at hp;have hp2:=(ht (m+1) p hp).2 (by omega);obtain ⟨q,hq1,_⟩:=Zfm (l:=l) hp2.1 (by omega);have hr:(Zq.Res w)[m+1]?=some (Zq.Res w)[m+1]:=List.getElem?_eq_getElem (by omega);have hn:nl[m+1]?=some nl[m+1]:=List.getElem?_eq_getElem (by omega);have hl2:l[m+1]?=some l[m+1]:=List.getElem?_eq_getElem (by omega);simp only[Xa,show ((m+1:Nat):Int)<(l.length:Int) from by omega,if_true,Zo,hp,hq1,hr,hn,hl2,Bq];exact ⟨_,rfl,by rw[Y8 (by omega)],by simp[hl]⟩
    · rintro ⟨i,l,⟨⟩⟩ ⟨hi,hl⟩
      simp only at hi hl;subst hi;simp only[Xa,show ¬(((Zq.Parent w).length-1+1:Nat):Int)<(l.length:Int) from by omega,if_false];exact ⟨_,rfl,hl⟩
  obtain ⟨nd,hnd,hnd2⟩:=hnd;unfold Y2;rw[hnd,Bq,Zo,hw,Bq];refine Zgq (l:=Zq.Zc0 w) (λm v=>v.1.length=m/\v.2.1=(m:Int)) _ ⟨rfl,rfl⟩ ?_ ?_
  · rintro m y ⟨o,i,⟨⟩⟩ hy hm ⟨ho,hi⟩
    simp only at hi ho;subst hi;have hz2:=asn y (List.mem_of_getElem? hy);obtain ⟨q,hq1,_⟩:=Zfm (l:=nd) hz2.1 (by omega);simp only[Y5,show (m:Int)<((Zq.Zc0 w).length:Int) from by omega,if_true,Zo,hy,hq1,Bq];rw[Zn (by simp;omega)];exact ⟨_,rfl,by simp[ho],by rw[Y8 (by omega)]⟩
  · rintro ⟨o,i,⟨⟩⟩ ⟨ho,hi⟩
    simp only at hi ho;subst hi;simp only[Y5,Int.lt_irrefl,if_false];exact ⟨_,rfl,by omega⟩
def Qx (f t a b kind ix:Int):Zm:=(2*f+a,2*t+b,kind,ix,())
def trs (a:ZB):List (Int×Int×Unit) :=
  if ZB.Kind a=2 then [(0,0,()),(0,1,())] else if ZB.Kind a=3 then [(1,0,()),(1,1,())] else
    if ZB.Kind a=1 then (if ZB.V8 a=1 then [(0,0,()),(1,1,())] else if ZB.V8 a=2 then [(0,1,()),(1,0,())] else [(0,0,()),(0,1,()),(1,0,()),(1,1,())]) else []
theorem ZlB (a:ZB):VZ a=some (trs a):=by
  unfold VZ trs;repeat' split
  all_goals rfl
def Zj2 (a:ZB) (f t ix:Int):List Zm:=(trs a).map (λp=>Qx f t p.1 p.2.1 1 ix)
theorem ZoS (l:List Zm) (f t a b kind ix:Int) (hl:l.length<=1048576) (hf:0<=f/\f<=1048576) (ht:0<=t/\t<=1048576) (ha:0<=a/\a<=1) (hb:0<=b/\b<=1) :
    VN l f t a b kind ix=some (l++[Qx f t a b kind ix]):=by
  unfold VN Qx;rw[Zn (by simp;omega),YI (n:=2*f) (by omega) (by omega),YI (n:=2*t) (by omega) (by omega),YI (n:=2*f+a) (by omega) (by omega),YI (n:=2*t+b) (by omega) (by omega)]
def ZvD (arc:ZB) (a b:Int):Bool :=
  if ZB.Kind arc=1 then (if ZB.V8 arc=3 then true else (decide (ZB.V8 arc=1) == decide (a=b))) else if ZB.Kind arc=2 then decide (a=0) else if ZB.Kind arc=3 then decide (a=1) else false
def Zic (arc:ZB) (f t ix a b:Int):List Zm:=if ZvD arc a b=true then [Qx f t a b 1 ix] else []
theorem Zpf (arc:ZB) (f t ix a b:Int) (l:List Zm) (hl:l.length<=1048576) (hf:0<=f/\f<=1048576) (ht:0<=t/\t<=1048576) (ha:0<=a/\a<=1) (hb:0<=b/\b<=1) :
    Jj arc f t ix a l b=some (.inl (l++Zic arc f t ix a b,b+1,())):=by
  unfold Jj Zic ZvD;rw[if_pos (by omega),ZoS l f t a b 1 ix hl hf ht ha hb,YI (n:=b+1) (by omega) (by omega)];simp only[Bq];by_cases k1:ZB.Kind arc=1
  · simp only[k1,if_true]
    by_cases s3:ZB.V8 arc=3
    · simp only[s3,if_true]
    · simp only[s3,if_false]
      split
      · rfl
      · rw[List.append_nil]
  by_cases k2:ZB.Kind arc=2
  · simp only[k2,if_true,Int.reduceEq,if_false,decide_eq_true_eq]
    split
    · rfl
    · rw[List.append_nil]
  by_cases k3:ZB.Kind arc=3
  · simp only[k3,if_true,Int.reduceEq,if_false,decide_eq_true_eq]
    split
    · rfl
    · rw[List.append_nil]
  · simp only[k1,k2,k3,if_false,Bool.false_eq_true,List.append_nil]
theorem ZjP (arc:ZB) (f t ix a b:Int):(Zic arc f t ix a b).length<=1:=by
  unfold Zic;split<;>simp
theorem Zng (arc:ZB) (f t ix a:Int) (l:List Zm) (hl:l.length<=1048000) (hf:0<=f/\f<=1048576) (ht:0<=t/\t<=1048576) (ha:0<=a/\a<=1) :
    Zp (λv=>Jj arc f t ix a v.1 v.2.1) (l,(0:Int),())=some (.inl (l++Zic arc f t ix a 0++Zic arc f t ix a 1,a+1,())):=by
  have h1:=ZjP arc f t ix a 0;have h2:=ZjP arc f t ix a 1;rw[YM (v':=(l++Zic arc f t ix a 0,(0:Int)+1,())) (Zpf arc f t ix a 0 l (by omega) hf ht ha (by omega)),
    YM (v':=(l++Zic arc f t ix a 0++Zic arc f t ix a 1,(0:Int)+1+1,())) (Zpf arc f t ix a (0+1) _ (by rw[List.length_append];omega) hf ht ha (by omega)),YL]
  simp only[Jj];rw[if_neg (by omega),YI (n:=a+1) (by omega) (by omega)]
theorem Ztn (arc:ZB) (f t ix:Int) (hs:ZB.Kind arc=1->1<=ZB.V8 arc/\ZB.V8 arc<=3):Zic arc f t ix 0 0++Zic arc f t ix 0 1++(Zic arc f t ix 1 0++Zic arc f t ix 1 1)=Zj2 arc f t ix:=by
  unfold Zic ZvD Zj2 trs;by_cases k1:ZB.Kind arc=1
  · have h:=hs k1
    by_cases s1:ZB.V8 arc=1
    · simp[k1,s1]
    by_cases s2:ZB.V8 arc=2
    · simp[k1,s2]
    · have s3:ZB.V8 arc=3:=by omega
      simp[k1,s3]
  by_cases k2:ZB.Kind arc=2
  · simp[k2]
  by_cases k3:ZB.Kind arc=3
  · simp[k3]
  · simp[k1,k2,k3]
theorem Zlv (l:List Zm) (arc:ZB) (f t ix:Int) (hl:l.length<=1047000) (hf:0<=f/\f<=1048576) (ht:0<=t/\t<=1048576) (hs:ZB.Kind arc=1->1<=ZB.V8 arc/\ZB.V8 arc<=3) :
    ZfN l arc f t ix=some (l++Zj2 arc f t ix):=by
  have h1:=ZjP arc f t ix 0 0;have h2:=ZjP arc f t ix 0 1;unfold ZfN;have s0:QZ arc f t ix l 0=some (.inl (l++Zic arc f t ix 0 0++Zic arc f t ix 0 1,0+1,())):=by
    unfold QZ;rw[if_pos (by omega),Zng arc f t ix 0 l (by omega) hf ht (by omega)]
  have s1:QZ arc f t ix (l++Zic arc f t ix 0 0++Zic arc f t ix 0 1) 1=some (.inl (l++Zic arc f t ix 0 0++Zic arc f t ix 0 1++Zic arc f t ix 1 0++Zic arc f t ix 1 1,1+1,())):=by
    unfold QZ;rw[if_pos (by omega),Zng arc f t ix 1 _ (by simp only[List.length_append];omega) hf ht (by omega)]
  rw[YM (v':=(l++Zic arc f t ix 0 0++Zic arc f t ix 0 1,(1:Int),())) s0,YM (v':=(l++Zic arc f t ix 0 0++Zic arc f t ix 0 1++Zic arc f t ix 1 0++Zic arc f t ix 1 1,(2:Int),())) s1,YL (r:=l++Zj2 arc f t ix)];simp only[QZ];rw[if_neg (by omega),<-Ztn arc f t ix hs];simp only[List.append_assoc]
def Zqo (c:Zl) (f:Int):List Zm:=cat (λi a=>Zj2 a (f+ZB.From a) (f+ZB.To a) (i:Int)) 0 (Zl.Jr c)
theorem Zm7 (a:ZB):(trs a).length<=4:=by
  unfold trs;repeat' split
  all_goals simp
theorem Ze8 {b:Zc} (h:XT b) {x:Zi} (hx:x∈Zd.Instances (Zc.Design b)) (f:Int) (hf:0<=f/\f<=1000000) :
    ∃ c,(Zy.Cells (Zc.Library b))[(Zi.Cell x).toNat]?=some c/\ZgS c/\V3 b x f=some (Zqo c f):=by
  obtain ⟨hc,⟨c,hc1,hc2⟩,_⟩:=h.ok.1.2.2.1 x hx;have hC:=h.ok.1.1.2.1 c (List.mem_of_getElem? hc1);have hA:=hC.2.2.1.1;refine ⟨c,hc1,hC,?_⟩;unfold V3;rw[Qn hc.1 hc1,Bq];refine Xy (l:=Zl.Jr c) (λi a=>Zj2 a (f+ZB.From a) (f+ZB.To a) (i:Int)) [] (λk a ha hk=>?_) ?_
  · have hao:=(hC.2.2.1.2 k a ha).1
    have hpl:=hC.2.1.2.1;have hl:=V9 (f:=λi a=>Zj2 a (f+ZB.From a) (f+ZB.To a) (i:Int)) (c:=4) (l:=(Zl.Jr c).take k) (m:=0) (λi a _=>by simp only[Zj2,List.length_map];exact Zm7 a);rw[List.length_take] at hl;simp only[List.nil_append,Vk,show (k:Int)<((Zl.Jr c).length:Int) from by omega,if_true,Zo,ha,ZlB,Bq];generalize cat (λi a=>Zj2 a (f+ZB.From a) (f+ZB.To a) (i:Int)) 0 ((Zl.Jr c).take k)=acc at hl;have ht4:=Zm7 a;have htr:∀ p∈trs a,(0<=p.1/\p.1<=1)/\(0<=p.2.1/\p.2.1<=1):=by
      intro p hp;unfold trs at hp;repeat' split at hp
      all_goals (simp only[List.mem_cons,List.not_mem_nil,or_false] at hp)
      all_goals first | (rcases hp with rfl | rfl | rfl | rfl<;>simp) | (rcases hp with rfl | rfl<;>simp) | exact hp.elim
    have h1:=hao.1;have h2:=hao.2.1;refine (Xy (l:=trs a) (ρ:=(List Zm×Int×Unit) ⊕ List Zm) (λ_ p=>[Qx (f+ZB.From a) (f+ZB.To a) p.1 p.2.1 1 (k:Int)]) acc (good:=.inl (acc++Zj2 a (f+ZB.From a) (f+ZB.To a) (k:Int),((k+1:Nat):Int),())) (λj p hp hj=>?_) ?_)
    · have hp2:=htr p (List.mem_of_getElem? hp)
      have hl2:=V9 (f:=λ(_:Nat) (p:Int×Int×Unit)=>[Qx (f+ZB.From a) (f+ZB.To a) p.1 p.2.1 1 (k:Int)]) (c:=1) (l:=(trs a).take j) (m:=0) (λ_ _ _=>by simp);rw[List.length_take] at hl2;simp only[Vj,show (j:Int)<((trs a).length:Int) from by omega,if_true,Zo,hp,Bq];rw[Zn (by rw[List.length_append,List.length_singleton];omega),Y8 (by omega),YI (n:=f+ZB.From a) (by omega) (by omega),YI (n:=f+ZB.To a) (by omega) (by omega),YI (n:=2*(f+ZB.From a)) (by omega) (by omega),YI (n:=2*(f+ZB.To a)) (by omega) (by omega),YI (n:=2*(f+ZB.From a)+p.1) (by omega) (by omega),YI (n:=2*(f+ZB.To a)+p.2.1) (by omega) (by omega)];rfl
    · have e:cat (λ(_:Nat) (p:Int×Int×Unit)=>[Qx (f+ZB.From a) (f+ZB.To a) p.1 p.2.1 1 (k:Int)]) 0 (trs a)=Zj2 a (f+ZB.From a) (f+ZB.To a) (k:Int):=by
        unfold Zj2;generalize trs a=l;have:∀ (m:Nat),cat (λ(_:Nat) (p:Int×Int×Unit)=>[Qx (f+ZB.From a) (f+ZB.To a) p.1 p.2.1 1 (k:Int)]) m l=l.map (λp=>Qx (f+ZB.From a) (f+ZB.To a) p.1 p.2.1 1 (k:Int)):=by
          induction l with
          | nil=>intro m;rfl
          | cons p r ih=>intro m;simp[cat,ih]
        exact this 0
      simp only[Vj,Int.lt_irrefl,if_false,e];rw[Y8 (by omega)]
  · simp only[List.nil_append,Vk,Int.lt_irrefl,if_false];rfl
theorem ZkZ (d:Zd) (i j:Int) (h:Few d):Zb6 d i j=some (Zb3 (λx:Pl=>decide (x.1=i)&&decide (x.2.1=j)) (places d)):=by
  have hpl:=YK h;unfold Zb6;rw[YW d h,Bq];refine J4 (out:=λi=>i) (show Len (places d) by show List.length _<=_;omega) (λk x hx=>?_) ?_
  · have hk:=(List.getElem?_eq_some_iff.1 hx).1
    simp only[ZcN,show (k:Int)<((places d).length:Int) from by omega,if_true,Zo,hx,Bq,Bool.and_eq_true,decide_eq_true_eq];split
    · rename_i e1
      split
      · rename_i e2;rw[if_pos ⟨e1,e2⟩]
      · rename_i e2;rw[if_neg (λq=>e2 q.2)]
    · rename_i e1;rw[if_neg (λq=>e1 q.1)]
  · simp only[ZcN,Int.lt_irrefl,if_false]
theorem Zmj {α β:Type} {g:Nat->α->β}:∀ {l:List α} {m j:Nat},(cat (λj n=>[g j n]) m l)[j]?=(l[j]?).map (g (m+j))
  | [],m,j=>by simp[cat]
  | x::r,m,0=>by simp[cat]
  | x::r,m,j+1=>by
    simp only[cat,List.cons_append,List.nil_append,List.getElem?_cons_succ];rw[Zmj (l:=r) (m:=m+1) (j:=j),show m+1+j=m+(j+1) by omega]
theorem Zhb {α β:Type} {g:Nat->α->β}:∀ {l:List α} {m:Nat},(cat (λj n=>[g j n]) m l).length=l.length
  | [],m=>rfl
  | x::r,m=>by simp[cat,Zhb (l:=r)]
theorem ZaT (i:Nat) (x:Zi):(VY i x).length=(Zi.YQ x).length:=by unfold VY;rw[Zhb]
def fst (d:Zd) (i:Nat):Nat:=(cat VY 0 ((Zd.Instances d).take i)).length
theorem ZtI {d:Zd} {i:Nat} {x:Zi} (hx:(Zd.Instances d)[i]?=some x):fst d (i+1)=fst d i+(Zi.YQ x).length:=by
  unfold fst;rw[Zfo hx,List.length_append,ZaT]
theorem Zgt {d:Zd} {i:Nat} {x:Zi} (hx:(Zd.Instances d)[i]?=some x):∃ B,places d=cat VY 0 ((Zd.Instances d).take i)++(VY i x++B):=by
  have hi:=List.getElem?_eq_some_iff.1 hx;have e:Zd.Instances d=(Zd.Instances d).take i++(x::(Zd.Instances d).drop (i+1)):=by
    rw[<-hi.2,<-List.drop_eq_getElem_cons hi.1,List.take_append_drop]
  refine ⟨cat VY (i+1) ((Zd.Instances d).drop (i+1))++cat Zfc 0 (Zd.YR d),?_⟩;unfold places
  conv=>lhs;rw[e]
  rw[Zig];have hl:((Zd.Instances d).take i).length=i:=by rw[List.length_take];have:=hi.1;omega
  rw[hl,Nat.zero_add];simp only[cat,List.append_assoc]
theorem Zpz {d:Zd} (h:Few d) {i j:Nat} {x:Zi} (hx:(Zd.Instances d)[i]?=some x) (hj:j<(Zi.YQ x).length) :
    Zb6 d (i:Int) (j:Int)=some ((fst d i:Int)+(j:Int)):=by
  rw[ZkZ d _ _ h];obtain ⟨B,hB⟩:=Zgt hx;congr 1;have hn:(Zi.YQ x)[j]?=some (Zi.YQ x)[j]:=List.getElem?_eq_getElem hj;have hat:∀ (q:Nat) (y:Pl),(VY i x)[q]?=some y->y.1=(i:Int)/\y.2.1=(q:Int):=by
    intro q y hy;unfold VY at hy;rw[Zmj,Nat.zero_add] at hy;simp only[Option.map_eq_some_iff] at hy;obtain ⟨n,_,rfl⟩:=hy;exact ⟨rfl,rfl⟩
  have hex:∃ y,(VY i x)[j]?=some y:=⟨_,List.getElem?_eq_getElem (by rw[ZaT];exact hj)⟩;obtain ⟨y,hy⟩:=hex;have hy2:=hat j y hy;have:=Zi0 (p:=λx:Pl=>decide (x.1=(i:Int))&&decide (x.2.1=(j:Int))) (l:=places d) (k:=fst d i+j) (x:=y)
    (by
      rw[hB,List.getElem?_append_right (by unfold fst;omega),show fst d i+j-(cat VY 0 ((Zd.Instances d).take i)).length=j by unfold fst;omega,List.getElem?_append_left (by rw[ZaT];exact hj)];exact hy)
    (by simp[hy2.1,hy2.2])
    (λq z hq hz=>by
      rw[hB] at hz;by_cases hqA:q<(cat VY 0 ((Zd.Instances d).take i)).length
      · rw[List.getElem?_append_left hqA] at hz
        obtain ⟨i',x',hi',hz'⟩:=XU.1 (List.mem_of_getElem? hz);have hlt:i'<i:=by
          have:=(List.getElem?_eq_some_iff.1 hi').1;rw[List.length_take] at this;omega
        rw[Nat.zero_add] at hz';have:z.1=(i':Int):=by
          unfold VY at hz';obtain ⟨j',n,_,hn'⟩:=XU.1 hz';simp only[List.mem_singleton] at hn';rw[hn']
        have hne:¬z.1=(i:Int):=by omega
        simp[hne]
      · have hq2:q-(cat VY 0 ((Zd.Instances d).take i)).length<j:=by unfold fst at hq;omega
        rw[List.getElem?_append_right (by omega),List.getElem?_append_left (by rw[ZaT];omega)] at hz;have:=(hat _ _ hz).2;have hne:¬z.2.1=(j:Int):=by omega
        simp[hne])
  rw[this];omega
def Ziw (b:Zc) (i:Nat) (x:Zi):List Zm:=match (Zy.Cells (Zc.Library b))[(Zi.Cell x).toNat]? with
  | some c=>Zqo c (fst (Zc.Design b) i:Int)
  | none=>[]
def ZhU (b:Zc):List Zm:=cat (Ziw b) 0 (Zd.Instances (Zc.Design b))
theorem Znh (c:Zl) (f:Int) (h:(Zl.Jr c).length<=8):(Zqo c f).length<=32:=by
  have:=V9 (f:=λi a=>Zj2 a (f+ZB.From a) (f+ZB.To a) (i:Int)) (c:=4) (l:=Zl.Jr c) (m:=0) (λi a _=>by simp only[Zj2,List.length_map];exact Zm7 a);unfold Zqo;omega
theorem ZuV {d:Zd} (h:Few d) (i:Nat):fst d i<=70:=Zb2 h i
theorem Zr4 {b:Zc} (h:XT b) (i:Nat) (x:Zi) (hx:x∈Zd.Instances (Zc.Design b)):(Ziw b i x).length<=32:=by
  obtain ⟨c,h1,h2,_⟩:=Ze8 h hx 0 (by omega);unfold Ziw;rw[h1];exact Znh c _ h2.2.2.1.1
theorem Zfn {b:Zc} (h:XT b) (k:Nat):(cat (Ziw b) 0 ((Zd.Instances (Zc.Design b)).take k)).length<=448:=by
  have h1:=h.ok.1.few.insts;have:=V9 (f:=Ziw b) (c:=32) (l:=(Zd.Instances (Zc.Design b)).take k) (m:=0) (λi x hx=>Zr4 h i x (List.mem_of_mem_take hx));rw[List.length_take] at this;omega
theorem Zn7 {b:Zc} (h:XT b) {i:Nat} {x:Zi} (hx:(Zd.Instances (Zc.Design b))[i]?=some x) {c:Zl} (hc:(Zy.Cells (Zc.Library b))[(Zi.Cell x).toNat]?=some c) (acc:List Zm) (ha:acc.length<=100000) :
    Zp (λv=>JK b (i:Int) c v.1 v.2.1) (acc,(0:Int),())=some (.inl (acc++Zqo c (fst (Zc.Design b) i:Int),((i+1:Nat):Int),())):=by
  have hf:=h.ok.1.few;have hi:=(List.getElem?_eq_some_iff.1 hx).1;have h14:=hf.insts;have hxm:=List.mem_of_getElem? hx;obtain ⟨_,⟨c',hc1,hc2⟩,_⟩:=h.ok.1.2.2.1 x hxm;rw[hc] at hc1;injection hc1 with hc1;subst hc1
  have hC:=h.ok.1.1.2.1 c (List.mem_of_getElem? hc);have hA:=hC.2.2.1.1;have hpn:=hC.2.1.2.1;have h70:=ZuV hf i;refine Xy (l:=Zl.Jr c) (λk a=>Zj2 a ((fst (Zc.Design b) i:Int)+ZB.From a) ((fst (Zc.Design b) i:Int)+ZB.To a) (k:Int)) acc (λk a hka hk=>?_) ?_
  · have hao:=(hC.2.2.1.2 k a hka).1
    have hl:=V9 (f:=λk a=>Zj2 a ((fst (Zc.Design b) i:Int)+ZB.From a) ((fst (Zc.Design b) i:Int)+ZB.To a) (k:Int)) (c:=4) (l:=(Zl.Jr c).take k) (m:=0) (λi a _=>by simp only[Zj2,List.length_map];exact Zm7 a);rw[List.length_take] at hl;simp only[JK,show (k:Int)<((Zl.Jr c).length:Int) from by omega,if_true,Zo,hka,Bq];generalize cat (λk a=>Zj2 a ((fst (Zc.Design b) i:Int)+ZB.From a) ((fst (Zc.Design b) i:Int)+ZB.To a) (k:Int)) 0 ((Zl.Jr c).take k)=acc2 at hl;have h1:=hao.1;have h2:=hao.2.1;by_cases hk3:ZB.Kind a<=3
    · have e1:=Zpz hf hx (j:=(ZB.From a).toNat) (by omega)
      have e2:=Zpz hf hx (j:=(ZB.To a).toNat) (by omega);rw[show ((ZB.From a).toNat:Int)=ZB.From a by omega] at e1;rw[show ((ZB.To a).toNat:Int)=ZB.To a by omega] at e2;rw[if_pos hk3,e1,Bq,e2,Bq,Zlv _ a _ _ _ (by rw[List.length_append];omega) (by omega) (by omega) (λhk1=>by
        rcases hao.2.2 with hh | hh | hh
        · exact hh.2.2.2.1
        · have:=hh.1;omega
        · have:=hh.1;omega),Bq,Y8 (by omega)]
    · rw[if_neg hk3,Y8 (by omega)]
      have e:Zj2 a ((fst (Zc.Design b) i:Int)+ZB.From a) ((fst (Zc.Design b) i:Int)+ZB.To a) (k:Int)=[]:=by
        unfold Zj2 trs;rw[if_neg (by omega),if_neg (by omega),if_neg (by omega)];rfl
      rw[e,List.append_nil]
  · simp only[JK,Int.lt_irrefl,if_false]
    rw[Y8 (by omega)];rfl
def Ztj (d:Zd) (n:Int):List Zm:=cat (λj s=>[Qx (Zfs d n) s 0 0 2 (j:Int),Qx (Zfs d n) s 1 1 2 (j:Int)]) 0 (sinks d n)
theorem Zt1 {d:Zd} (h:Few d) (n:Int):(Ztj d n).length<=156:=by
  have h1:=V9 (f:=λj s=>[Qx (Zfs d n) s 0 0 2 (j:Int),Qx (Zfs d n) s 1 1 2 (j:Int)]) (c:=2) (l:=sinks d n) (m:=0) (λ_ _ _=>by simp);have h2:=Zcx n (places d) 0;have h3:=YK h;unfold Ztj;have:(sinks d n).length<=78:=by unfold sinks;omega
  omega
theorem Znj {α β γ:Type} (f:Nat->List γ):∀ (l:List α) (r:List β) (m:Nat),l.length=r.length->cat (λk _=>f k) m l=cat (λk _=>f k) m r
  | [],[],_,_=>rfl
  | [],_::_,_,h=>by simp at h
  | _::_,[],_,h=>by simp at h
  | _::l,_::r,m,h=>by simp only[cat];rw[Znj f l r (m+1) (by simpa using h)]
def ZpX (b:Zc):List Zm:=cat (λv _=>Ztj (Zc.Design b) (v:Int)) 0 (Zc.Yw b)
def Zr (b:Zc):List Zm:=ZhU b++ZpX b
theorem Zha {b:Zc} (h:XT b) {α:Type} (l:List α):(cat (λv _=>Ztj (Zc.Design b) (v:Int)) 0 l).length<=156*l.length :=
  V9 (f:=λv _=>Ztj (Zc.Design b) (v:Int)) (c:=156) (l:=l) (m:=0) (λv _ _=>Zt1 h.ok.1.few _)
theorem Zfz {b:Zc} (h:XT b):(ZhU b).length<=448:=by
  have:=Zfn h (Zd.Instances (Zc.Design b)).length;rw[List.take_length] at this;exact this
theorem Zpn {b:Zc} (h:XT b) {v:Nat} (hv:v<(Zd.YQ (Zc.Design b)).length):0<=Zfs (Zc.Design b) (v:Int)/\Zfs (Zc.Design b) (v:Int)<((places (Zc.Design b)).length:Int):=by
  obtain ⟨q,y,hq,_,e,_⟩:=Zpp h.ok.1 (Zhp h.sm).2.1 hv;have:=(List.getElem?_eq_some_iff.1 hq).1;rw[e];omega
theorem Vq {b:Zc} (h:XT b):QN b=some (Zr b):=by
  have hf:=h.ok.1.few;have h14:=hf.insts;have h30:=h.ok.1.2.1.2.1;have hpl:=YK hf;unfold QN;refine Xy (l:=Zd.Instances (Zc.Design b)) (Ziw b) [] (λi x hx hi=>?_) ?_
  · have hxm:=List.mem_of_getElem? hx
    obtain ⟨hc,⟨c,hc1,hc2⟩,_⟩:=h.ok.1.2.2.1 x hxm;have hl:=Zfn h i;simp only[List.nil_append,ZbV,show (i:Int)<((Zd.Instances (Zc.Design b)).length:Int) from by omega,if_true,Zo,hx,Bq,Qn hc.1 hc1];rw[Zn7 h hx hc1 _ (by omega)];have e:Ziw b i x=Zqo c (fst (Zc.Design b) i:Int):=by unfold Ziw;rw[hc1]
    rw[e]
  · have hil:=Zfz h
    simp only[List.nil_append,ZbV,Int.lt_irrefl,if_false];refine Xy (l:=Zd.YQ (Zc.Design b)) (λv _=>Ztj (Zc.Design b) (v:Int)) (ZhU b) (ρ:=(List Zm×Int×Unit) ⊕ List Zm) (good:=.inr (Zr b)) (λv s hs hv=>?_) ?_
    · have hdr:=Zpn h hv
      have hl:=Zha h ((Zd.YQ (Zc.Design b)).take v);rw[List.length_take] at hl;have e1:Zbn (Zc.Design b) (v:Int)=some (Zfs (Zc.Design b) (v:Int)):=ZiP _ _ hf;simp only[ZbU,show (v:Int)<((Zd.YQ (Zc.Design b)).length:Int) from by omega,if_true,e1,Bq,Zbz _ _ hf];have hsl:(sinks (Zc.Design b) (v:Int)).length<=78:=by
        have:=Zcx (v:Int) (places (Zc.Design b)) 0;unfold sinks;omega
      generalize hacc:ZhU b++cat (λv _=>Ztj (Zc.Design b) (v:Int)) 0 ((Zd.YQ (Zc.Design b)).take v)=acc;have hal:acc.length<=10000:=by rw[<-hacc,List.length_append];omega
      refine Xy (l:=sinks (Zc.Design b) (v:Int)) (λj s=>[Qx (Zfs (Zc.Design b) (v:Int)) s 0 0 2 (j:Int),Qx (Zfs (Zc.Design b) (v:Int)) s 1 1 2 (j:Int)]) acc (λj y hy hj=>?_) ?_
      · have hyb:=Zgr (List.mem_of_getElem? hy)
        have hl2:=V9 (f:=λj s=>[Qx (Zfs (Zc.Design b) (v:Int)) s 0 0 2 (j:Int),Qx (Zfs (Zc.Design b) (v:Int)) s 1 1 2 (j:Int)]) (c:=2) (l:=(sinks (Zc.Design b) (v:Int)).take j) (m:=0) (λ_ _ _=>by simp);rw[List.length_take] at hl2;simp only[ZbT,show (j:Int)<((sinks (Zc.Design b) (v:Int)).length:Int) from by omega,if_true,Zo,hy,Bq];rw[ZoS _ _ _ _ _ _ _ (by rw[List.length_append];omega) (by omega) (by omega) (by omega) (by omega),Bq,ZoS _ _ _ _ _ _ _ (by simp only[List.length_append,List.length_singleton];omega) (by omega) (by omega) (by omega) (by omega),Bq,Y8 (by omega)];simp only[List.append_assoc,List.cons_append,List.nil_append]
      · simp only[ZbT,Int.lt_irrefl,if_false]
        rw[Y8 (by omega)];rfl
    · simp only[ZbU,Int.lt_irrefl,if_false]
      rw[Znj (λv=>Ztj (Zc.Design b) (v:Int)) (Zd.YQ (Zc.Design b)) (Zc.Yw b) 0 h.ok.2.1.symm];rfl
structure Stand (d:Zd) (n k:Nat) (l0:List Int) (l1:List (List Int)):Prop where
  n0:l0.length=n
  n1:l1.length=n
  drv:∀ (v q:Nat) (y:Pl),v<n->q<k->(places d)[q]?=some y->Zpo (v:Int) y=true->l0[v]?=some (q:Int)
  snk:∀ (v:Nat),v<n->l1[v]?=some (cat (ZdM (v:Int)) 0 ((places d).take k))
noncomputable def ldF (b:Zc) (v:Nat):Int:=((Yk b (v:Int)).bind (λr=>r[0]?)).getD 0
noncomputable def edF (b:Zc) (v:Nat):List Int:=(Y2 b (v:Int)).getD []
theorem ZoP {b:Zc} (h:XT b):∃ v,Zdx b=some v/\ZG.places v=places (Zc.Design b)/\ZG.Block v=b/\ZG.links v=Zr b/\ZG.loads v=(List.range (Zc.Yw b).length).map (ldF b)/\ZG.ZfX v=(List.range (Zc.Yw b).length).map (edF b)/\ZG.extras v=[]:=by
  have hD:=h.ok.1;have hf:=hD.few;have hsd:=(Zhp h.sm).2.1;have hpl:=YK hf;have h14:=hf.insts;have hwn:=h.ok.2.1;have h30:=hD.2.1.2.1;have hil:=Zfz h;unfold Zdx;rw[Xb _ hf,Bq];refine Zgq (l:=Zd.Instances (Zc.Design b)) (λk v=>v.1=((fst (Zc.Design b) k:Nat):Int)/\v.2.1=(k:Int)/\v.2.2.1=cat (Ziw b) 0 ((Zd.Instances (Zc.Design b)).take k)) _ ⟨rfl,rfl,rfl⟩ ?_ ?_
  · rintro k x ⟨n,i,c,⟨⟩⟩ hx hk ⟨hn,hi,hc⟩
    simp only at hn hi hc;subst hi;subst hn;subst hc;have h70:=ZuV hf k;have hl:=Zfn h k;obtain ⟨c,h1,h2,h3⟩:=Ze8 h (List.mem_of_getElem? hx) ((fst (Zc.Design b) k:Nat):Int) (by omega);have hal:=Znh c ((fst (Zc.Design b) k:Nat):Int) h2.2.2.1.1;have hnx:=hf.nets x (List.mem_of_getElem? hx);simp only[Zco,show (k:Int)<((Zd.Instances (Zc.Design b)).length:Int) from by omega,if_true,Zo,hx,h3,Bq,Za6];rw[Zn (by omega)];refine ⟨_,rfl,?_,?_,?_⟩
    · simp only;rw[YI (by omega) (by omega),ZtI hx];omega
    · simp only;rw[Y8 (by omega)]
    · simp only
      rw[Zfo hx];congr 1;unfold Ziw;rw[h1]
  · rintro ⟨n,i,c0,⟨⟩⟩ ⟨_,hi,hc0⟩
    simp only at hi hc0;subst hi;rw[List.take_length] at hc0;have hc0l:c0.length<=448:=by rw[hc0];exact hil
    simp only[Zco,Int.lt_irrefl,if_false];rw[Zn (by omega),Zn (by omega),Zn (by omega),Zn (by omega),Zn (by omega)];obtain ⟨r,hr1,r',rfl,hr2⟩:=Zgq (l:=places (Zc.Design b)) (ρ:=(Int×Int×List Zm×Unit) ⊕ ZG) (step:=λv=>Zah b (places (Zc.Design b)) c0 v.1 v.2.1 v.2.2.1) (v:=((0:Int),List.replicate (Int.toNat (↑(List.length (Zc.Yw b)):Int)) (0:Int),List.replicate (Int.toNat (↑(List.length (Zc.Yw b)):Int)) (([]:List Int)),()))
      (λk v=>v.1=(k:Int)/\Stand (Zc.Design b) (Zc.Yw b).length k v.2.1 v.2.2.1)
      (λr=>∃ r',r=.inr r'/\ZG.places r'=places (Zc.Design b)/\ZG.Block r'=b/\ZG.links r'=Zr b/\ZG.loads r'=(List.range (Zc.Yw b).length).map (ldF b)/\ZG.ZfX r'=(List.range (Zc.Yw b).length).map (edF b)/\ZG.extras r'=[])
      ⟨rfl,by simp,by simp,λv q y _ hq=>by omega,λv hv=>by
        rw[List.take_zero];simp only[cat];rw[List.getElem?_replicate,if_pos (by omega)]⟩
      (by
        rintro k x ⟨i,l0,l1,⟨⟩⟩ hx hk ⟨hi,hS⟩;simp only at hi hS;subst hi;have hn:=ZnO hD (List.mem_of_getElem? hx);have hn1:=hn.2;have hn00:0<=x.2.2.1:=hn.1;have htn:YJ.net x=x.2.2.1:=rfl;simp only[Zah,show (k:Int)<((places (Zc.Design b)).length:Int) from by omega,if_true,Zo,hx,Bq];have hn0:=hS.n0;have hn2:=hS.n1;obtain ⟨q,hq1,_⟩:=Zfm (l:=l0) hn.1 (by omega);obtain ⟨p,hp1,_⟩:=Zfm (l:=l1) hn.1 (by omega);have hpv:p=cat (ZdM x.2.2.1) 0 ((places (Zc.Design b)).take k):=by
          have e:=hS.snk (x.2.2.1).toNat (by omega);have e2:l1[(x.2.2.1).toNat]?=some p:=by
            have:=hp1;unfold atI at this;rw[if_pos hn.1] at this;exact this
          rw[e] at e2;injection e2 with e2
          rw[<-e2,show (((x.2.2.1).toNat:Nat):Int)=x.2.2.1 by omega]
        have hpl2:p.length<=78:=by
          rw[hpv];have:=Zcx x.2.2.1 ((places (Zc.Design b)).take k) 0;rw[List.length_take] at this;omega
        by_cases hd:x.2.2.2.1=true
        · rw[if_pos hd,show atI l0 (YJ.net x)=some q from hq1,Bq]
          refine ⟨_,rfl,by simp only;rw[Y8 (by omega)],?_,?_,?_,?_⟩
          · simp[hn0]
          · exact hn2
          · intro v p' y hv hp' hy hdy
            simp only;rw[List.getElem?_set];by_cases hnet:(YJ.net x).toNat=v
            · rw[if_pos hnet,if_pos (by omega)]
              obtain ⟨q',_,_,_,_,uniq⟩:=Zpp hD hsd (v:=v) (by omega);have hxd:Zpo (v:Int) x=true:=by
                unfold Zpo;have:x.2.2.1=(v:Int):=by rw[<-hnet];show x.2.2.1=((x.2.2.1).toNat:Int);omega
                simp[this,hd]
              have e1:=uniq k x hx hxd;have e2:=uniq p' y hy hdy;rw[e1,e2]
            · rw[if_neg hnet]
              have hpk:p'≠k:=by
                intro e;subst e;rw[hx] at hy;injection hy with hy
                subst hy;unfold Zpo at hdy;simp only[Bool.and_eq_true,decide_eq_true_eq] at hdy;exact hnet (by show (x.2.2.1).toNat=v;omega)
              exact hS.drv v p' y hv (by omega) hy hdy
          · intro v hv
            simp only;rw[hS.snk v hv,Zfo hx];congr 1;have:ZdM (v:Int) k x=[]:=by
              unfold ZdM;rw[if_pos hd];split<;>rfl
            rw[this,List.append_nil]
        · rw[if_neg hd,show atI l1 (YJ.net x)=some p from hp1,Bq,Zn (by simp;omega)]
          refine ⟨_,rfl,by simp only;rw[Y8 (by omega)],hn0,?_,?_,?_⟩
          · simp[hn2]
          · intro v p' y hv hp' hy hdy
            have hpk:p'≠k:=by
              intro e;subst e;rw[hx] at hy;injection hy with hy
              subst hy;unfold Zpo at hdy;simp only[Bool.and_eq_true] at hdy;exact hd hdy.2
            exact hS.drv v p' y hv (by omega) hy hdy
          · intro v hv
            simp only;rw[List.getElem?_set,Zfo hx];by_cases hnet:(YJ.net x).toNat=v
            · have hxv:x.2.2.1=(v:Int):=by rw[<-hnet];show x.2.2.1=((x.2.2.1).toNat:Int);omega
              rw[if_pos hnet,if_pos (by omega),hpv,hxv];unfold ZdM;rw[if_pos hxv,if_neg hd]
            · have hxv:¬x.2.2.1=(v:Int):=λe=>hnet (by show (x.2.2.1).toNat=v;omega)
              rw[if_neg hnet,hS.snk v hv];have:ZdM (v:Int) k x=[]:=by unfold ZdM;rw[if_neg hxv]
              rw[this,List.append_nil])
      (by
        rintro ⟨i,l0,l1,⟨⟩⟩ ⟨hi,hS⟩;simp only at hi hS;subst hi;simp only[Zah,Int.lt_irrefl,if_false];have hS0:=hS.n0;obtain ⟨r,hr1,r',rfl,hr2⟩:=Zgq (l:=Zc.Yw b) (ρ:=(Int×List Int×List (List Int)×Unit) ⊕ ((Int×Int×List Zm×Unit) ⊕ ZG)) (step:=λv=>Zag b (places (Zc.Design b)) l0 v.1 v.2.1 v.2.2.1 v.2.2.2.1 v.2.2.2.2.1) (v:=((0:Int),([]:List Int),([]:List (List Int)),c0,l1,()))
          (λk v=>v.1=(k:Int)/\v.2.1=(List.range k).map (ldF b)/\v.2.2.1=(List.range k).map (edF b)/\v.2.2.2.1=c0++cat (λv _=>Ztj (Zc.Design b) (v:Int)) 0 ((Zc.Yw b).take k)/\v.2.2.2.2.1=l1)
          (λr=>∃ r',r=.inr (.inr r')/\ZG.places r'=places (Zc.Design b)/\ZG.Block r'=b/\ZG.links r'=Zr b/\ZG.loads r'=(List.range (Zc.Yw b).length).map (ldF b)/\ZG.ZfX r'=(List.range (Zc.Yw b).length).map (edF b)/\ZG.extras r'=[])
          ⟨rfl,rfl,rfl,by simp[cat],rfl⟩
          (by
            rintro k w ⟨i,c1,c2,c3,l2,⟨⟩⟩ hw hk ⟨hi,g1,g2,g3,g4⟩;simp only at hi g1 g2 g3 g4;subst hi;subst g4;have hc3:c3.length<=5200:=by
              have:=Zha h ((Zc.Yw b).take k);rw[List.length_take] at this;rw[g3,List.length_append];omega
            obtain ⟨nl,hnl,hnl2⟩:=Zh0 h hw;obtain ⟨ed,hed,hed2⟩:=Zj6 h hw;have hpar:=(h.ok.2.2 k w hw).1.1;have g1l:c1.length=k:=by rw[g1];simp
            have g2l:c2.length=k:=by rw[g2];simp
            have hld:ldF b k=nl[0]:=by
              unfold ldF;rw[hnl,Bq,List.getElem?_eq_getElem (by omega)];rfl
            have hedf:edF b k=ed:=by
              unfold edF;rw[hed];rfl
            have hn0:atI nl (0:Int)=some nl[0]:=(show nl[0]?=some nl[0] from List.getElem?_eq_getElem (by omega));have hl2:=hS.snk k hk;rw[List.take_length] at hl2;obtain ⟨dq,dy,hdq,hdy,hdo,_⟩:=Zpp hD hsd (v:=k) (by omega);have hl0:=hS.drv k dq dy hk (List.getElem?_eq_some_iff.1 hdq).1 hdq hdy;have hdl:=(List.getElem?_eq_some_iff.1 hdq).1;have hl2':l2[k]?=some (sinks (Zc.Design b) (k:Int)):=hl2;have hsl:(sinks (Zc.Design b) (k:Int)).length<=78:=by
              have:=Zcx (k:Int) (places (Zc.Design b)) 0;unfold sinks;omega
            simp only[Zag,show (k:Int)<((Zc.Yw b).length:Int) from by omega,if_true,hnl,hn0,hed,Bq,Zo,hl2'];rw[Zn (by simp;omega),Zn (by simp;omega)];obtain ⟨r,hr1,r',rfl,hr2⟩:=Zgq (l:=sinks (Zc.Design b) (k:Int)) (ρ:=(Int×List Int×List (List Int)×List Zm×List (List Int)×Unit) ⊕ ((Int×List Int×List (List Int)×Unit) ⊕ ((Int×Int×List Zm×Unit) ⊕ ZG))) (step:=λv=>Zaf l0 (k:Int) c1 c2 l2 nl[0] ed (sinks (Zc.Design b) (k:Int)) v.1 v.2.1) (v:=((0:Int),c3,()))
              (λm v=>v.1=(m:Int)/\v.2.1=c3++cat (λj s=>[Qx (Zfs (Zc.Design b) (k:Int)) s 0 0 2 (j:Int),Qx (Zfs (Zc.Design b) (k:Int)) s 1 1 2 (j:Int)]) 0 ((sinks (Zc.Design b) (k:Int)).take m))
              (λr=>∃ r',r=.inl r'/\r'.1=((k+1:Nat):Int)/\r'.2.1=(List.range (k+1)).map (ldF b)/\r'.2.2.1=(List.range (k+1)).map (edF b)/\r'.2.2.2.1=c0++cat (λv _=>Ztj (Zc.Design b) (v:Int)) 0 ((Zc.Yw b).take (k+1))/\r'.2.2.2.2.1=l2)
              ⟨rfl,by simp[cat]⟩
              (by
                rintro m y ⟨i,c4,⟨⟩⟩ hy hm ⟨hi,gc⟩;simp only at hi gc;subst hi;have hyb:=Zgr (List.mem_of_getElem? hy);have hc4:c4.length<=6000:=by
                  have:=V9 (f:=λj s=>[Qx (Zfs (Zc.Design b) (k:Int)) s 0 0 2 (j:Int),Qx (Zfs (Zc.Design b) (k:Int)) s 1 1 2 (j:Int)]) (c:=2) (l:=(sinks (Zc.Design b) (k:Int)).take m) (m:=0) (λ_ _ _=>by simp);rw[List.length_take] at this;rw[gc,List.length_append];omega
                simp only[Zaf,show (m:Int)<((sinks (Zc.Design b) (k:Int)).length:Int) from by omega,if_true,Zo,hy,Bq];have st:∀ (j:Nat) (c5:List Zm),j<2->c5.length<=6100->Vz l0 (k:Int) (m:Int) y (j:Int) c5=some (.inl (((j+1:Nat):Int),c5++[Qx (dq:Int) y (j:Int) (j:Int) 2 (m:Int)],())):=by
                  intro j c5 hj hc5;simp only[Vz,show (j:Int)<(2:Int) from by omega,if_true,Zo,hl0,Bq];rw[Zn (by simp;omega),YI (n:=2*(dq:Int)) (by omega) (by omega),YI (n:=2*(dq:Int)+(j:Int)) (by omega) (by omega),YI (n:=2*y) (by omega) (by omega),YI (n:=2*y+(j:Int)) (by omega) (by omega),Y8 (by omega)];rfl
                have s0:=st 0 c4 (by omega) (by omega);have s1:=st 1 (c4++[Qx (dq:Int) y ((0:Nat):Int) ((0:Nat):Int) 2 (m:Int)]) (by omega) (by simp;omega);have hw2:Zp (λv=>Vz l0 (k:Int) (m:Int) y v.1 v.2.1) ((0:Int),c4,())=some (.inl (((m+1:Nat):Int),c4++[Qx (dq:Int) y ((0:Nat):Int) ((0:Nat):Int) 2 (m:Int)]++[Qx (dq:Int) y ((1:Nat):Int) ((1:Nat):Int) 2 (m:Int)],())):=by
                  rw[YM (v':=(((0+1:Nat):Int),c4++[Qx (dq:Int) y ((0:Nat):Int) ((0:Nat):Int) 2 (m:Int)],())) s0,YM (v':=(((1+1:Nat):Int),c4++[Qx (dq:Int) y ((0:Nat):Int) ((0:Nat):Int) 2 (m:Int)]++[Qx (dq:Int) y ((1:Nat):Int) ((1:Nat):Int) 2 (m:Int)],())) s1,YL];simp only[Vz];rw[if_neg (by omega),Y8 (by omega)]
                refine ⟨_,hw2,rfl,?_⟩;simp only;rw[gc,Zfo hy,hdo];simp only[List.append_assoc,List.cons_append,List.nil_append,Int.natCast_zero,Int.natCast_one])
              (by
                rintro ⟨i,c4,⟨⟩⟩ ⟨hi,gc⟩;simp only at hi gc;subst hi;rw[List.take_length] at gc;simp only[Zaf,Int.lt_irrefl,if_false];refine ⟨_,rfl,_,rfl,by simp only;rw[Y8 (by omega)],by simp only;rw[g1,List.range_succ,List.map_append,List.map_singleton,hld],by simp only;rw[g2,List.range_succ,List.map_append,List.map_singleton,hedf],?_,?_⟩
                · simp only
                  rw[gc,g3,Zfo hw,List.append_assoc];rfl
                · simp only
                  apply List.ext_getElem?;intro i;rw[List.getElem?_set];split
                  · rename_i e
                    have e:k=i:=by simpa using e
                    subst e;rw[hl2'];split
                    · rfl
                    · rename_i hlt
                      exact absurd (by have:=hS.n1;simpa using (show k<l2.length by omega)) hlt
                  · rfl)
            exact ⟨r',hr1,hr2⟩)
          (by
            rintro ⟨i,c1,c2,c3,l2,⟨⟩⟩ ⟨hi,g1,g2,g3,g4⟩;simp only at hi g3;subst hi;rw[List.take_length] at g3;simp only[Zag,Int.lt_irrefl,if_false];refine ⟨_,rfl,_,rfl,rfl,rfl,?_,g1,g2,rfl⟩;show c3=Zr b;rw[g3,hc0];rfl)
        exact ⟨_,hr1,_,rfl,hr2⟩)
    exact ⟨r',hr1,hr2⟩
def ZdA (n:Nat) (br:List Int):List Bool:=(List.range n).map (λ(k:Nat)=>!decide ((k:Int)∈br))
theorem Zfa (n:Nat) (br:List Int):(ZdA n br).length=n:=by simp[ZdA]
theorem Ze5 (l:List Int) (x:Int) (hl:l.length<=1048576):Zde l x=some (decide (x∈l)):=by
  unfold Zde;rw[J4 (l:=l) (p:=λy=>decide (y=x)) (out:=λi=>decide (0<=i)) (show List.length _<=_ by omega) (λk y hy=>by
    have hk:=(List.getElem?_eq_some_iff.1 hy).1;simp only[Zdf,show (k:Int)<(l.length:Int) from by omega,if_true,Zo,hy,Bq,decide_eq_true_eq];split
    · rw[decide_eq_true (by omega)]
    · rfl) (by simp only[Zdf,Int.lt_irrefl,if_false];rfl)]
  congr 1;rw[decide_eq_decide,ZaO,List.any_eq_true];constructor
  · rintro ⟨y,hy,e⟩;simp at e;subst e;exact hy
  · intro h;exact ⟨x,h,by simp⟩
theorem ZcQ (L:List Zm) (br:List Int) (hL:L.length<=6000) (hb:br.length<=1048576):ZaG L br=some (ZdA L.length br):=by
  have e:cat (λk (_:Zm)=>[!decide ((k:Int)∈br)]) 0 L=ZdA L.length br:=by
    apply List.ext_getElem?;intro j;rw[Zmj];unfold ZdA;rw[List.getElem?_map,Nat.zero_add];by_cases h:j<L.length
    · rw[List.getElem?_eq_getElem h,List.getElem?_range h];rfl
    · rw[List.getElem?_eq_none (by omega),List.getElem?_eq_none (by simp;omega)];rfl
  unfold ZaG;refine Xy (l:=L) (λk (_:Zm)=>[!decide ((k:Int)∈br)]) [] (λk x hx hk=>?_) ?_
  · have h1:(cat (λk (_:Zm)=>[!decide ((k:Int)∈br)]) 0 (L.take k)).length=(L.take k).length:=Zhb
    rw[List.length_take] at h1;simp only[List.nil_append,ZcR,show (k:Int)<(L.length:Int) from by omega,if_true,Ze5 br _ hb,Bq];rw[Zn (by rw[List.length_singleton];omega),Y8 (by omega)]
  · simp only[List.nil_append,ZcR,Int.lt_irrefl,if_false,e]
theorem ZqD {n:Nat} {s:List Int} {x:Int} (h0:0<=x) (h1:x<(n:Int)):List.set (ZdA n s) (Int.toNat x) false=ZdA n (s++[x]):=by
  apply List.ext_getElem?;intro j;rw[List.getElem?_set];unfold ZdA;rw[List.getElem?_map,List.getElem?_map,List.length_map,List.length_range];by_cases hj:j<n
  · rw[List.getElem?_range hj]
    by_cases e:x.toNat=j
    · rw[if_pos e,if_pos (by omega)]
      have:(j:Int)=x:=by omega
      simp[this]
    · rw[if_neg e]
      have:¬(j:Int)=x:=by omega
      simp[this]
  · rw[List.getElem?_eq_none (l:=List.range n) (by simp;omega)]
    split
    · rw[if_neg (by omega)];rfl
    · rfl
theorem Zqy (v:ZG) (br:List Int) (hL:(ZG.links v).length<=6000) (hb:Ze6 br 0 (((ZG.links v).length:Int)-1)) (hbl:br.length<=1048576):QY v br=some (v,ZdA (ZG.links v).length br,()):=by
  unfold QY;rw[Zn (by omega),Zn (by omega),Zn (by omega),Zn (by omega)];generalize hn:(ZG.links v).length=n at *;have hlen:List.length (List.replicate (Int.toNat (n:Int)) false)=n:=by simp
  have hrest:Zp (λw=>X5 v br w.1 w.2.1) ((0:Int),List.replicate n true,())=some (.inr (v,ZdA n br,())):=by
    have:=JF (l:=br) (ρ:=(Int×List Bool×Unit) ⊕ Ya) (λk=>((k:Int),ZdA n (br.take k),())) (step:=λw=>X5 v br w.1 w.2.1) (good:=.inr (v,ZdA n br,()))
      (λk x hx hk=>by
        have hxb:=hb x (List.mem_of_getElem? hx);obtain ⟨y,hy,_⟩:=Zfm (l:=ZdA n (br.take k)) hxb.1 (by rw[Zfa];omega);simp only[X5,show (k:Int)<(br.length:Int) from by omega,if_true,Zo,hx,hy,Bq];rw[ZqD hxb.1 (by omega),XR hx,Y8 (by omega)])
      (by simp only[X5,Int.lt_irrefl,if_false,List.take_length])
    have e0:ZdA n (br.take 0)=List.replicate n true:=by
      apply List.ext_getElem?;intro j;simp only[ZdA,List.take_zero,List.not_mem_nil,decide_false,Bool.not_false,List.getElem?_map,List.getElem?_replicate];by_cases h:j<n
      · simp[h]
      · simp[h]
    rw[<-e0];exact this
  refine Yv n (λk w=>w.1=(k:Int)/\w.2.1.length=n/\∀ j,j<k->w.2.1[j]?=some true) _ ⟨rfl,by simp,λj hj=>by omega⟩ ?_ ?_
  · rintro k ⟨i,l,⟨⟩⟩ hk ⟨hi,hl,hS⟩
    simp only at hi hl hS;subst hi;have hx:l[k]?=some l[k]:=List.getElem?_eq_getElem (by omega);left;simp only[JC,hn,hlen,show (k:Int)<(n:Int) from by omega,if_true,Zo,hx,Bq];refine ⟨_,rfl,by simp only;rw[Y8 (by omega)],by simp[hl],λj hj=>?_⟩;simp only[Int.toNat_natCast];rw[List.getElem?_set];split
    · rw[if_pos (by omega)]
    · exact hS j (by omega)
  · rintro ⟨i,l,⟨⟩⟩ ⟨hi,hl,hS⟩
    simp only at hi hl hS;subst hi;have e:l=List.replicate n true:=by
      apply List.ext_getElem?;intro j;rw[List.getElem?_replicate];by_cases h:j<n
      · rw[hS j h,if_pos h]
      · rw[List.getElem?_eq_none (by omega),if_neg h]
    simp only[JC,hn,hlen,Int.lt_irrefl,if_false];rw[e];exact hrest
def Zj0 (n:Int) (l:List Int):Prop:=Ze6 l 0 (n-1)/\Inc l
theorem ZvI {l:List Int}:Inc l<->ZdQ l (λk x=>∀ y,0<k->l[k-1]?=some y->y<x):=by
  constructor
  · intro h k x hx y hk hy
    exact h (k-1) y x hy (by rw[show k-1+1=k by omega];exact hx)
  · intro h k x y hx hy
    exact h (k+1) y hy x (by omega) hx
theorem ZiQ (l:List Int) (n:Int) (hl:l.length<=1048576) (hn:0<=n/\n<=1048576):Zdt l n=some (tr (Zj0 n l)):=by
  have e1:Wq (n-1)=n-1:=YI (by omega) (by omega);unfold Zdt;rw[QC (l:=l) (show List.length _<=_ by omega) (λk x=>(0<=x/\x<=n-1)/\∀ y,0<k->l[k-1]?=some y->y<x) (bad:=false) (good:=true)
    (λk x hx hk _=>by
      simp only[Zbf,show (k:Int)<(l.length:Int) from by omega,if_true,Zo,hx,Bq,JD,e1];by_cases hb:0<=x/\x<=n-1
      · rw[if_pos (ZU hb)]
        by_cases h0:(0:Int)<(k:Int)
        · obtain ⟨y,hy⟩:∃ y,l[k-1]?=some y:=⟨_,List.getElem?_eq_getElem (by omega)⟩
          rw[if_pos h0,ZgW (by omega) (by omega),Zo,hy,Bq];constructor
          · intro hh
            rw[if_neg];have:=hh.2 y (by omega) rfl;omega
          · intro hh
            rw[if_pos];apply Classical.byContradiction;intro hlt;refine hh ⟨hb,λy' _ hy'=>?_⟩;injection hy' with hy'
            have:¬x<=y:=hlt;omega
        · rw[if_neg h0]
          exact ⟨λ_=>rfl,λhh=>absurd ⟨hb,λy hk0=>by omega⟩ hh⟩
      · rw[if_neg (λq=>hb ((YH _).1 q))]
        exact ⟨λhh=>absurd hh.1 hb,λ_=>rfl⟩)
    (λ_=>by simp only[Zbf,Int.lt_irrefl,if_false]),Zfe]
  congr 1;refine QO ?_;unfold Zj0;rw[ZvI];constructor
  · intro q
    exact ⟨Zbr.1 (λk x hx=>(q k x hx).1),λk x hx=>(q k x hx).2⟩
  · rintro ⟨q1,q2⟩ k x hx
    exact ⟨q1 x (List.mem_of_getElem? hx),q2 k x hx⟩
theorem ZoH (l:List Int) (n:Int) (hl:l.length<=1048576):((Xg l 0 n).bind λb=>if b=true then (QX l).bind λc=>some c else some false)=some (tr (Ze6 l 0 n/\Inc l)) :=
  YT (ZeA _ _ _ hl) (λ_=>Zb9 (ZdV _ (show List.length _<=_ by omega)))
theorem ZdW {b:Zc} (h:XT b) {l:Zm} (hl:l∈Zr b):(0<=Zm.From l/\Zm.From l<2*((places (Zc.Design b)).length:Int))/\(0<=Zm.To l/\Zm.To l<2*((places (Zc.Design b)).length:Int)):=by
  have hf:=h.ok.1.few;unfold Zr at hl;rcases List.mem_append.1 hl with hl | hl
  · obtain ⟨i,x,hi,hx⟩:=XU.1 hl
    rw[Nat.zero_add] at hx;obtain ⟨hc,⟨c,hc1,hc2⟩,_⟩:=h.ok.1.2.2.1 x (List.mem_of_getElem? hi);have hC:=h.ok.1.1.2.1 c (List.mem_of_getElem? hc1);unfold Ziw at hx;rw[hc1] at hx;obtain ⟨k,a,ha,hla⟩:=XU.1 hx;have hao:=(hC.2.2.1.2 k a ha).1;have h1:=hao.1;have h2:=hao.2.1;obtain ⟨B,hB⟩:=Zgt hi;have hlen:fst (Zc.Design b) i+(Zi.YQ x).length<=(places (Zc.Design b)).length:=by
      rw[hB,List.length_append,List.length_append,ZaT];unfold fst;omega
    unfold Zj2 at hla;obtain ⟨p,hp,rfl⟩:=List.mem_map.1 hla;have htr:(0<=p.1/\p.1<=1)/\(0<=p.2.1/\p.2.1<=1):=by
      unfold trs at hp;repeat' split at hp
      all_goals (simp only[List.mem_cons,List.not_mem_nil,or_false] at hp)
      all_goals first | (rcases hp with rfl | rfl | rfl | rfl<;>simp) | (rcases hp with rfl | rfl<;>simp) | exact hp.elim
    simp only[Qx,Zm.From,Zm.To];omega
  · obtain ⟨v,w,hw,hx⟩:=XU.1 hl
    rw[Nat.zero_add] at hx;have hv:v<(Zd.YQ (Zc.Design b)).length:=by
      have:=(List.getElem?_eq_some_iff.1 hw).1;have:=h.ok.2.1;omega
    have hd:=Zpn h hv;obtain ⟨j,s,hs,hls⟩:=XU.1 hx;have hsb:=Zgr (List.mem_of_getElem? hs);simp only[List.mem_cons,List.not_mem_nil,or_false] at hls;rcases hls with rfl | rfl
    · simp only[Qx,Zm.From,Zm.To];omega
    · simp only[Qx,Zm.From,Zm.To];omega
theorem XH {b:Zc} (h:XT b):(Zr b).length<=6000:=by
  have h1:=Zfz h;have h2:=Zha h (Zc.Yw b);have h3:=h.ok.2.1;have h4:=h.ok.1.2.1.2.1;unfold Zr ZpX;rw[List.length_append];omega
def Zwx (b:Zc) (x:Zm) (y:Pl):Prop:=Zm.Kind x=1/\∃ (i:Nat) (u:Zi) (c:Zl) (k:Nat) (a:ZB),y.1=(i:Int)/\(Zd.Instances (Zc.Design b))[i]?=some u/\0<=Zi.Cell u/\(Zy.Cells (Zc.Library b))[(Zi.Cell u).toNat]?=some c/\
  (Zl.Jr c)[k]?=some a/\Zm.Index x=(k:Int)/\Za2 (ZB.Delay a) true/\Za2 (ZB.Xx a) true
def Zx7 (b:Zc) (x:Zm) (v:Nat):Prop:=Zm.Kind x=2/\∃ (w:Zq) (j:Nat) (z:Int),(Zc.Yw b)[v]?=some w/\Zm.Index x=(j:Int)/\(Zq.Zc0 w)[j]?=some z
structure Zrh (b:Zc) (x:Zm) (y:Pl) (v:Nat):Prop where
  to0:0<=Zm.To x
  to1:Zm.To x<=1000000
  place:(places (Zc.Design b))[(Zm.To x / 2).toNat]?=some y
  net:y.2.2.1=(v:Int)
  few:v<(Zc.Yw b).length
  kind:Zwx b x y\/Zx7 b x v
theorem ZnC {b:Zc} (h:XT b) {x:Zm} (hl:x∈Zr b):∃ y v,Zrh b x y v:=by
  have hf:=h.ok.1.few;have hpl:=YK hf;have hbd:=ZdW h hl;have hwn:=h.ok.2.1;unfold Zr at hl;rcases List.mem_append.1 hl with hl | hl
  · obtain ⟨i,u,hi,hx⟩:=XU.1 hl
    rw[Nat.zero_add] at hx;obtain ⟨hc,⟨c,hc1,hc2⟩,hnets⟩:=h.ok.1.2.2.1 u (List.mem_of_getElem? hi);have hC:=h.ok.1.1.2.1 c (List.mem_of_getElem? hc1);unfold Ziw at hx;rw[hc1] at hx;obtain ⟨k,a,ha,hla⟩:=XU.1 hx;rw[Nat.zero_add] at hla;have hao:=(hC.2.2.1.2 k a ha).1;have h1:=hao.1;have h2:=hao.2.1;obtain ⟨B,hB⟩:=Zgt hi;unfold Zj2 at hla;obtain ⟨p,hp,rfl⟩:=List.mem_map.1 hla;have htr:(0<=p.2.1/\p.2.1<=1)/\(ZB.Kind a=1\/ZB.Kind a=2\/ZB.Kind a=3):=by
      unfold trs at hp;repeat' split at hp
      all_goals (simp only[List.mem_cons,List.not_mem_nil,or_false] at hp)
      all_goals first | (rcases hp with rfl | rfl | rfl | rfl<;>simp<;>omega) | (rcases hp with rfl | rfl<;>simp<;>omega) | exact hp.elim
    obtain ⟨ht,hk⟩:=htr;have htabs:Za2 (ZB.Delay a) true/\Za2 (ZB.Xx a) true:=by
      rcases hao.2.2 with q | q | q
      · exact ⟨q.2.2.2.2.1,q.2.2.2.2.2⟩
      · exact ⟨q.2.2.2.2.1,q.2.2.2.2.2⟩
      · have:=q.1;omega
    have hn:(Zi.YQ u)[(ZB.To a).toNat]?=some ((Zi.YQ u)[(ZB.To a).toNat]'(by omega)):=List.getElem?_eq_getElem _;have hnet:=hnets _ (List.mem_of_getElem? hn);generalize (Zi.YQ u)[(ZB.To a).toNat]'(by omega)=n at hn hnet;have hnet0:0<=n/\n<=((Zd.YQ (Zc.Design b)).length:Int)-1:=hnet;have hfst:(cat VY 0 ((Zd.Instances (Zc.Design b)).take i)).length=fst (Zc.Design b) i:=rfl;have eto:Zm.To (Qx ((fst (Zc.Design b) i:Nat)+ZB.From a) ((fst (Zc.Design b) i:Nat)+ZB.To a) p.1 p.2.1 1 (k:Int))=2*((fst (Zc.Design b) i:Int)+ZB.To a)+p.2.1:=rfl;have hpos:((2*((fst (Zc.Design b) i:Int)+ZB.To a)+p.2.1) / 2).toNat=fst (Zc.Design b) i+(ZB.To a).toNat:=by omega
    refine ⟨((i:Int),(((ZB.To a).toNat:Nat):Int),n,decide ((((ZB.To a).toNat:Nat):Int)=Wq (((Zi.YQ u).length:Int)-1)),()),n.toNat,hbd.2.1,by have:=hbd.2.2;omega,?_,by show n=_;omega,by omega,.inl ⟨rfl,i,u,c,k,a,rfl,hi,hc.1,hc1,ha,rfl,htabs.1,htabs.2⟩⟩;rw[eto,hpos,hB,List.getElem?_append_right (by rw[hfst];omega),hfst,Nat.add_sub_cancel_left,List.getElem?_append_left (by rw[ZaT];omega)];unfold VY;rw[Zmj,hn,Nat.zero_add];rfl
  · obtain ⟨v,w,hw,hx⟩:=XU.1 hl
    rw[Nat.zero_add] at hx;have hv:=(List.getElem?_eq_some_iff.1 hw).1;obtain ⟨j,s,hs,hls⟩:=XU.1 hx;rw[Nat.zero_add] at hls;have hsl:((Zq.Zc0 w).length:Int)=((sinks (Zc.Design b) (v:Int)).length:Int):=(h.ok.2.2 v w hw).2.2.2.1;have hjl:=(List.getElem?_eq_some_iff.1 hs).1;have hz:(Zq.Zc0 w)[j]?=some ((Zq.Zc0 w)[j]'(by omega)):=List.getElem?_eq_getElem _;obtain ⟨q,y,hq,hy⟩:=XU.1 (show s∈cat (ZdM (v:Int)) 0 (places (Zc.Design b)) from List.mem_of_getElem? hs);rw[Nat.zero_add] at hy;have hsq:s=(q:Int)/\y.2.2.1=(v:Int):=by
      unfold ZdM at hy;split at hy
      · rename_i e
        split at hy
        · cases hy
        · exact ⟨List.mem_singleton.1 hy,e⟩
      · cases hy
    obtain ⟨rfl,hnet⟩:=hsq;simp only[List.mem_cons,List.not_mem_nil,or_false] at hls;rcases hls with rfl | rfl
    · refine ⟨y,v,hbd.2.1,by have:=hbd.2.2;omega,?_,hnet,hv,.inr ⟨rfl,w,j,_,hw,rfl,hz⟩⟩
      rw[show Zm.To (Qx (Zfs (Zc.Design b) (v:Int)) (q:Int) 0 0 2 (j:Int))=2*(q:Int)+0 from rfl,show ((2*(q:Int)+0) / 2).toNat=q by omega];exact hq
    · refine ⟨y,v,hbd.2.1,by have:=hbd.2.2;omega,?_,hnet,hv,.inr ⟨rfl,w,j,_,hw,rfl,hz⟩⟩
      rw[show Zm.To (Qx (Zfs (Zc.Design b) (v:Int)) (q:Int) 1 1 2 (j:Int))=2*(q:Int)+1 from rfl,show ((2*(q:Int)+1) / 2).toNat=q by omega];exact hq
def Ztg (n r:Nat):Prop:=r*r<=n/\n<(r+1)*(r+1)
theorem Zw3 {n r:Nat} (h:Ztg n r) (k:Nat):k<=r<->k*k<=n:=by
  constructor
  · intro q
    exact Nat.le_trans (Nat.mul_le_mul q q) h.1
  · intro q
    by_cases c:k<=r
    · exact c
    · have:(r+1)*(r+1)<=k*k:=Nat.mul_le_mul (by omega) (by omega)
      have:=h.2;omega
theorem Zu4 (k:Nat):(2*k)*(2*k)=4*(k*k):=by
  rw[Nat.mul_mul_mul_comm]
theorem Zud {S r R:Nat} (h:Ztg S r) (H:Ztg (4*S) R):r / 500=R / 1000:=by
  have e:∀ q:Nat,500*q<=r<->1000*q<=R:=λq=>by
    rw[Zw3 h,Zw3 H,show 1000*q=2*(500*q) by omega,Zu4];omega
  have e1:=e (r / 500);have e2:=e (R / 1000);omega
def upQ (x n:Nat):Nat:=if x % n=0 then x / n else x / n+1
theorem Zvf {x n q:Nat} (hn:0<n):upQ x n<=q<->x<=n*q:=by
  unfold upQ;have h1:=Nat.div_add_mod x n;have h2:=Nat.mod_lt x hn;constructor
  · intro h
    split at h
    · rename_i c
      have:=Nat.mul_le_mul_left n h;omega
    · have:=Nat.mul_le_mul_left n h
      rw[Nat.mul_add,Nat.mul_one] at this;omega
  · intro h
    split
    · rename_i c
      refine Nat.le_of_mul_le_mul_left (c:=n) ?_ hn;omega
    · rename_i c
      have:n*(x / n)<n*q:=by omega
      have:=Nat.lt_of_mul_lt_mul_left this;omega
theorem Zv1 {S r R:Nat} (h:Ztg S r) (H:Ztg (4*S) R):(if r*r<S then r / 500+1 else upQ r 500)=upQ (if R*R<4*S then R+1 else R) 1000:=by
  have hup:∀ {n x:Nat},Ztg n x->∀ k,(if x*x<n then x+1 else x)<=k<->n<=k*k:=by
    intro n x hx k;split
    · rename_i c
      constructor
      · intro q
        have:(x+1)*(x+1)<=k*k:=Nat.mul_le_mul q q;have:=hx.2;omega
      · intro q
        by_cases w:x+1<=k
        · exact w
        · have:k*k<=x*x:=Nat.mul_le_mul (by omega) (by omega)
          omega
    · rename_i c
      have e:x*x=n:=by have:=hx.1;omega
      constructor
      · intro q
        rw[<-e];exact Nat.mul_le_mul q q
      · intro q
        by_cases w:x<=k
        · exact w
        · have:(k+1)*(k+1)<=x*x:=Nat.mul_le_mul (by omega) (by omega)
          have:(k+1)*(k+1)=k*k+2*k+1:=by rw[Nat.add_mul,Nat.mul_add];omega
          omega
  have e1:∀ q,(if r*r<S then r / 500+1 else upQ r 500)<=q<->S<=(500*q)*(500*q):=λq=>by
    rw[<-hup h (500*q)];split
    · omega
    · exact Zvf (by decide)
  have e2:∀ q,upQ (if R*R<4*S then R+1 else R) 1000<=q<->S<=(500*q)*(500*q):=λq=>by
    rw[Zvf (by decide),hup H,show 1000*q=2*(500*q) by omega,Zu4];omega
  generalize (if r*r<S then r / 500+1 else upQ r 500)=A at e1 ⊢;generalize upQ (if R*R<4*S then R+1 else R) 1000=B at e2 ⊢;have a:=(e2 A).2 ((e1 A).1 (Nat.le_refl _));have c:=(e1 B).2 ((e2 B).1 (Nat.le_refl _));omega
theorem ZnW {ρ:Type} {n H:Nat} (hn:n<(H+1)*(H+1)) {step:Int×Int×Unit->Option ((Int×Int×Unit) ⊕ ρ)} {good:Nat->ρ}
    (h1:∀ lo hi:Nat,lo<hi->hi<=H->step ((lo:Int),(hi:Int),())=some (.inl (if (lo+hi+1) / 2*((lo+hi+1) / 2)<=n then ((((lo+hi+1) / 2:Nat):Int),(hi:Int),()) else ((lo:Int),(((lo+hi+1) / 2-1:Nat):Int),()))))
    (h2:∀ lo:Nat,lo<=H->step ((lo:Int),(lo:Int),())=some (.inr (good lo))):∃ r,Ztg n r/\r<=H/\Zp step ((0:Int),(H:Int),())=some (good r):=by
  obtain ⟨x,e,r,rfl,hr,hl⟩:=Zee (step:=step) (v:=((0:Int),(H:Int),())) (λv=>∃ lo hi:Nat,v=((lo:Int),(hi:Int),())/\lo<=hi/\hi<=H/\lo*lo<=n/\n<(hi+1)*(hi+1)) (λv=>(v.2.1-v.1).toNat) (λx=>∃ r,x=good r/\Ztg n r/\r<=H)
    ⟨0,H,rfl,by omega,by omega,by omega,hn⟩ (by
      rintro _ ⟨lo,hi,rfl,hle,hH,hlo,hhi⟩;by_cases c:lo<hi
      · left
        refine ⟨_,h1 lo hi c hH,?_,?_⟩
        · split
          · rename_i d
            exact ⟨_,_,rfl,by omega,hH,d,hhi⟩
          · rename_i d
            refine ⟨_,_,rfl,by omega,by omega,hlo,?_⟩;rw[show (lo+hi+1) / 2-1+1=(lo+hi+1) / 2 by omega];omega
        · split
          · simp only;omega
          · simp only;omega
      · right
        have:lo=hi:=by omega
        subst this;exact ⟨_,h2 lo hH,lo,rfl,⟨hlo,hhi⟩,hH⟩)
  exact ⟨r,hr,hl,e⟩
theorem ZuX {lo hi:Nat} (h:lo+hi<=8000000000):Wq (Int.tdiv (Wq (Wq ((lo:Int)+(hi:Int))+(1:Int))) (2:Int))=(((lo+hi+1) / 2:Nat):Int):=by
  rw[YI (n:=(lo:Int)+(hi:Int)) (by omega) (by omega),YI (n:=(lo:Int)+(hi:Int)+1) (by omega) (by omega),Int.tdiv_eq_ediv_of_nonneg (by omega),YI (by omega) (by omega)];omega
theorem Zuj {m:Nat} (h:m<=3000000000):Wq ((m:Int)*(m:Int))=((m*m:Nat):Int):=by
  have:=Nat.mul_le_mul h h;rw[<-Int.natCast_mul];generalize m*m=q at this ⊢;exact YI (by omega) (by omega)
theorem Znu {S:Nat} (hS:S<(3000000000+1)*(3000000000+1)):∃ r,Ztg S r/\r<=3000000000/\ZhT (S:Int)=some (r:Int):=by
  unfold ZhT;refine ZnW (n:=S) (H:=3000000000) (good:=λr=>(r:Int)) hS (λlo hi hlt hH=>?_) (λlo hl=>?_)
  · show Zau (S:Int) (lo:Int) (hi:Int)=_
    unfold Zau;rw[if_pos (by omega),ZuX (by omega),Zuj (by omega)];by_cases c:(lo+hi+1) / 2*((lo+hi+1) / 2)<=S
    · rw[if_pos c,if_pos (by omega)]
    · rw[if_neg c,if_neg (by omega),YI (by omega) (by omega),show (((lo+hi+1) / 2:Nat):Int)-1=(((lo+hi+1) / 2-1:Nat):Int) by omega]
  · show Zau (S:Int) (lo:Int) (lo:Int)=_
    unfold Zau;rw[if_neg (Int.lt_irrefl _)]
theorem Zn8 {S:Nat} {m:Int} (hS:S<(2000000000+1)*(2000000000+1)):∃ r,Ztg S r/\r<=2000000000/\ZdE (S:Int) m=some (if m=1 then ((if r*r<S then r+1 else r:Nat):Int) else (r:Int)):=by
  unfold ZdE;refine ZnW (n:=S) (H:=2000000000) (good:=λr=>if m=1 then ((if r*r<S then r+1 else r:Nat):Int) else (r:Int)) hS (λlo hi hlt hH=>?_) (λlo hl=>?_)
  · show VL (S:Int) m (lo:Int) (hi:Int)=_
    unfold VL;rw[if_pos (by omega),ZuX (by omega),Zuj (by omega)];by_cases c:(lo+hi+1) / 2*((lo+hi+1) / 2)<=S
    · rw[if_pos c,if_pos (by omega)]
    · rw[if_neg c,if_neg (by omega),YI (by omega) (by omega),show (((lo+hi+1) / 2:Nat):Int)-1=(((lo+hi+1) / 2-1:Nat):Int) by omega]
  · show VL (S:Int) m (lo:Int) (lo:Int)=_
    unfold VL;rw[if_neg (Int.lt_irrefl _),Zuj (by omega)];by_cases m1:m=1
    · rw[if_pos m1,if_pos m1]
      by_cases c:lo*lo<S
      · rw[if_pos (by omega),if_pos c,YI (by omega) (by omega)]
        rfl
      · rw[if_neg (by omega),if_neg c]
    · rw[if_neg m1,if_neg m1]
theorem Zmo {x n:Nat} {m:Int} (hn:0<n) (hx:x<=4000000000) (hn2:n<=1000) (hm:m=0\/m=1):Yz (x:Int) (n:Int) m=some (if m=1 then ((upQ x n:Nat):Int) else ((x / n:Nat):Int)):=by
  have e1:Int.tmod (x:Int) (n:Int)=((x % n:Nat):Int):=by rw[Int.tmod_eq_emod_of_nonneg (by omega)];omega
  have e2:Int.tdiv (x:Int) (n:Int)=((x / n:Nat):Int):=by rw[Int.tdiv_eq_ediv_of_nonneg (by omega)];omega
  have hq:=Nat.div_le_self x n;unfold Yz upQ;rw[Zn (by omega),e1,e2];clear e1 e2;generalize x / n=q at hq ⊢;rw[if_neg (by omega),YI (n:=(q:Int)) (by omega) (by omega)];by_cases c:x % n=0
  · rw[if_neg (by omega),if_pos c]
    rcases hm with rfl | rfl<;>rfl
  · rw[if_pos (by omega),if_neg c]
    rcases hm with rfl | rfl
    · rfl
    · rw[if_pos rfl,if_pos rfl,YI (by omega) (by omega)]
      rfl
def sqs (s d:Int):Nat:=250000*(s.natAbs*s.natAbs)+d.natAbs*d.natAbs
theorem Zxd {s d:Int} (h1:-1000000<=s) (h2:s<=1000000) (h3:0<=d) (h4:d<=301000000):sqs s d<=350000000000000000/\(s.natAbs*s.natAbs:Nat)<=1000000000000/\(d.natAbs*d.natAbs:Nat)<=90601000000000000/\s*s=((s.natAbs*s.natAbs:Nat):Int)/\d*d=((d.natAbs*d.natAbs:Nat):Int):=by
  have a:=Nat.mul_le_mul (show s.natAbs<=1000000 by omega) (show s.natAbs<=1000000 by omega);have b:=Nat.mul_le_mul (show d.natAbs<=301000000 by omega) (show d.natAbs<=301000000 by omega);refine ⟨?_,by omega,by omega,?_,?_⟩
  · unfold sqs
    generalize s.natAbs*s.natAbs=x at *;generalize d.natAbs*d.natAbs=y at *;omega
  · rw[Int.natCast_mul,Int.natAbs_mul_self']
  · rw[Int.natCast_mul,Int.natAbs_mul_self']
theorem Ztb {s d m:Int} (h1:-1000000<=s) (h2:s<=1000000) (h3:0<=d) (h4:d<=301000000) (hm:m=0\/m=1) :
    ∃ r,Zd2 s d m=some r/\0<=r/\((ZdE (Wq (Wq (Wq ((1000000:Int)*s)*s)+Wq (Wq ((4:Int)*d)*d))) m).bind λl07Root0=>(Yz l07Root0 (1000:Int) m).bind λl01Div0=>some l01Div0)=some r:=by
  obtain ⟨b1,b2,b3,e1,e2⟩:=Zxd h1 h2 h3 h4;have ei:Wq (Wq (Wq (Wq ((500:Int)*s)*(500:Int))*s)+Wq (d*d))=((sqs s d:Nat):Int):=by
    have f1:(500:Int)*s*500*s=250000*(s*s):=by
      rw[<-Int.mul_assoc];congr 1;omega
    rw[YI (n:=500*s) (by omega) (by omega),YI (n:=500*s*500) (by omega) (by omega),f1,e1,e2];unfold sqs;generalize s.natAbs*s.natAbs=x at *;generalize d.natAbs*d.natAbs=y at *;rw[YI (n:=250000*(x:Int)) (by omega) (by omega),YI (n:=(y:Int)) (by omega) (by omega),YI (by omega) (by omega)];omega
  have es:Wq (Wq (Wq ((1000000:Int)*s)*s)+Wq (Wq ((4:Int)*d)*d))=((4*sqs s d:Nat):Int):=by
    rw[YI (n:=1000000*s) (by omega) (by omega),YI (n:=4*d) (by omega) (by omega),Int.mul_assoc,Int.mul_assoc,e1,e2];unfold sqs;generalize s.natAbs*s.natAbs=x at *;generalize d.natAbs*d.natAbs=y at *;rw[YI (n:=1000000*(x:Int)) (by omega) (by omega),YI (n:=4*(y:Int)) (by omega) (by omega),YI (by omega) (by omega)];omega
  generalize sqs s d=S at b1 ei es;obtain ⟨r,hr,hrl,hre⟩:=Znu (S:=S) (by omega);obtain ⟨R,hR,hRl,hRe⟩:=Zn8 (S:=4*S) (m:=m) (by omega);unfold Zd2;rw[ei,es,hre,hRe,Bq,Bq,Zfr,Zuj (by omega)];rw[show (500:Int)=((500:Nat):Int) from rfl,show (1000:Int)=((1000:Nat):Int) from rfl];rcases hm with rfl | rfl
  · refine ⟨((r / 500:Nat):Int),?_,by omega,?_⟩
    · rw[if_neg (by decide),Zmo (by omega) (by omega) (by omega) (.inl rfl),Bq,if_neg (by decide)]
    · rw[if_neg (by decide),Zmo (by omega) (by omega) (by omega) (.inl rfl),Bq,if_neg (by decide),Zud hr hR]
  · have hl:=Zv1 hr hR
    refine ⟨((upQ (if R*R<4*S then R+1 else R) 1000:Nat):Int),?_,by omega,?_⟩
    · rw[if_pos rfl,<-hl]
      by_cases c:r*r<S
      · rw[if_pos (by omega),if_pos c,Int.tdiv_eq_ediv_of_nonneg (by omega),YI (n:=(r:Int) / ((500:Nat):Int)) (by omega) (by omega),YI (by omega) (by omega)]
        congr 1
      · rw[if_neg (by omega),if_neg c,Zmo (by omega) (by omega) (by omega) (.inr rfl),Bq,if_pos rfl]
    · rw[if_pos rfl,Zmo (by omega) (by split<;>omega) (by omega) (.inr rfl),Bq,if_pos rfl]
def Zrf (e l:Int):Prop:=100<=e/\e<=l/\l<=5000
def Vs (c:Zt):Prop:=JU (Zt.Name c)=true/\Zrf (Zt.Zal c) (Zt.Zbs c)/\Zrf (Zt.Zam c) (Zt.Zb8 c)
theorem Zug {c:Zt} (h:sm Xf c):(Zt.Name c).length<=4611686018427387904:=by
  refine Zfh ?_;first | exact h.1 | exact h.2.1
theorem ZhA (e l:Int):Zaq e l=some (tr (Zrf e l)):=by
  unfold Zaq Zrf;exact YS (λ_=>YS (λ_=>ZcY decide_eq_true_iff))
theorem Zf0 (c:Zt):ZdZ c=some (tr (Vs c)):=by
  unfold ZdZ;exact YT (by rw[Ze3];exact ZcY Iff.rfl) (λ_=>YT (ZhA _ _) (λ_=>Zb9 (ZhA _ _)))
theorem ZdN (c:Zt) (h:sm Xf c):Zcz c=some (tr (Vs c)):=by
  unfold Zcz;rw[QC (l:=[Zt.Zal c,Zt.Zbs c,Zt.Zam c,Zt.Zb8 c]) (show List.length _<=_ by simp) (λ_ x=>(100:Int)<=x/\x<=5000) (bad:=false) (good:=tr (JU (Zt.Name c)=true/\Zt.Zal c<=Zt.Zbs c/\Zt.Zam c<=Zt.Zb8 c))
    (λk x hx hk _=>by
      simp only[ZbI,show (k:Int)<((List.length [Zt.Zal c,Zt.Zbs c,Zt.Zam c,Zt.Zb8 c]:Nat):Int) from by omega,if_true,Zo,hx,Bq,JD];constructor
      · intro hh;rw[if_pos (ZU hh)]
      · intro hh;rw[if_neg (λq=>hh ((YH _).1 q))])
    (λ_=>by
      simp only[ZbI,Int.lt_irrefl,if_false,ZcH _ (Zug h),Bq];by_cases a:JU (Zt.Name c)=true
      · rw[if_pos a]
        by_cases b:Zt.Zal c<=Zt.Zbs c
        · rw[if_pos b]
          congr 2;exact (ZlA (by rw[decide_eq_true_eq];exact ⟨λq=>⟨a,b,q⟩,λq=>q.2.2⟩)).symm
        · rw[if_neg b,Z4 (λq=>b q.2.1)]
      · rw[if_neg a,Z4 (λq=>a q.1)]),ZgL]
  congr 1;refine QO ?_;rw[Zbr];simp only[List.mem_cons,List.not_mem_nil,or_false,forall_eq_or_imp,forall_eq];unfold Vs Zrf;constructor
  · rintro ⟨⟨q1,q2,q3,q4⟩,q5,q6,q7⟩;exact ⟨q5,by omega,by omega⟩
  · rintro ⟨q5,q6,q7⟩;exact ⟨by omega,q5,by omega,by omega⟩
structure VOk (b:Zc) (v:ZG):Prop where
  places:ZG.places v=places (Zc.Design b)
  block:ZG.Block v=b
  links:ZG.links v=Zr b
  loads:ZG.loads v=(List.range (Zc.Yw b).length).map (ldF b)
  ZfX:ZG.ZfX v=(List.range (Zc.Yw b).length).map (edF b)
  extras:ZG.extras v=[]
theorem Zs9 {b:Zc} (h:XT b):∃ v,Zdx b=some v/\VOk b v:=by
  obtain ⟨v,h1,h2,h3,h4,h5,h6,h7⟩:=ZoP h;exact ⟨v,h1,h2,h3,h4,h5,h6,h7⟩
theorem ZmG {b:Zc} {x:Zm} {y:Pl} {n:Nat} (hd:Zrh b x y n):atI (places (Zc.Design b)) (Wq (Int.tdiv (Zm.To x) (2:Int)))=some y:=by
  have h0:=hd.to0;have h1:=hd.to1;rw[Int.tdiv_eq_ediv_of_nonneg h0,YI (by omega) (by omega)];exact Qn (by omega) hd.place
theorem ZpY {b:Zc} {v:ZG} (hv:VOk b v) {x:Zm} {y:Pl} {n:Nat} (hd:Zrh b x y n):Jf v x=some (n:Int):=by
  unfold Jf;rw[hv.places,ZmG hd,Bq,<-hd.net]
theorem ZnA {b:Zc} (h:XT b) {x:Zm} {y:Pl} {n:Nat} (hd:Zrh b x y n):Zes b x=some (n:Int):=by
  unfold Zes;rw[YW _ h.ok.1.few,Bq,ZmG hd,Bq,<-hd.net]
theorem Zu5 {l:List Zx} (h:Za2 l true) {n:Int} (hn:0<=n):∃ t,atI l (Int.tmod n (2:Int))=some t/\Q0 t/\∀ v∈Zx.Values t,0<=v:=by
  have e:0<=Int.tmod n 2/\Int.tmod n 2<2:=by rw[Int.tmod_eq_emod_of_nonneg hn];omega
  obtain ⟨t,h1,h2⟩:=Zfm (l:=l) e.1 (by rw[h.1];exact e.2);exact ⟨t,h1,(h.2 t h2).1,(h.2 t h2).2 rfl⟩
theorem Zt2 {b:Zc} {n:Nat} {w:Zq} {ld:List Int} (h:Zom b n w ld):atI ld (0:Int)=some (ldF b n):=by
  have h1:=h.n1;have h2:=h.nl;have e:ld[0]?=some (ld[0]'(by omega)):=List.getElem?_eq_getElem _;show atI ld ((0:Nat):Int)=_;rw[Zo];unfold ldF;rw[h.prog,Bq,e];rfl
theorem Zsg {b:Zc} {n:Nat} {w:Zq} {ld:List Int} (h:Zom b n w ld):edF b n=(Zq.Zc0 w).map (sdl w ld):=by
  unfold edF;rw[Zlh h];rfl
theorem ZlI {b:Zc} (h:XT b) {v:ZG} (hv:VOk b v) {x:Zm} {y:Pl} {n:Nat} (hd:Zrh b x y n) (hc:Zwx b x y) :
    ∃ a t1 t2,Zav v x=some a/\Zer b x=some (a,ldF b n)/\atI (ZB.Delay a) (Int.tmod (Zm.To x) (2:Int))=some t1/\Q0 t1/\atI (ZB.Xx a) (Int.tmod (Zm.To x) (2:Int))=some t2/\Q0 t2/\∀ v∈Zx.Values t2,0<=v:=by
  obtain ⟨hk,i,u,c,k,a,e1,e2,e3,e4,e5,e6,e7,e8⟩:=hc;obtain ⟨t1,f1,f2,_⟩:=Zu5 e7 hd.to0;obtain ⟨t2,f3,f4,f5⟩:=Zu5 e8 hd.to0;have hw:(Zc.Yw b)[n]?=some ((Zc.Yw b)[n]'hd.few):=List.getElem?_eq_getElem _;obtain ⟨ld,hN⟩:=Zzo h hw;have g1:atI (Zd.Instances (Zc.Design b)) (YJ.instance y)=some u:=by
    show atI _ y.1=_;rw[e1,Zo];exact e2
  have g1':atI (Zd.Instances (Zc.Design b)) (ZQ.instance y)=some u:=g1;have g2:atI (Zy.Cells (Zc.Library b)) (Zi.Cell u)=some c:=Qn e3 e4;have g3:atI (Zl.Jr c) (Zm.Index x)=some a:=by rw[e6,Zo];exact e5
  refine ⟨a,t1,t2,?_,?_,f1,f2,f3,f4,f5⟩
  · unfold Zav
    rw[hv.places,hv.block,ZmG hd,Bq,g1,Bq,g2,Bq,g3];rfl
  · unfold Zer
    rw[YW _ h.ok.1.few,Bq,ZmG hd,Bq,g1',Bq,g2,Bq,g3,Bq,show ZQ.net y=(n:Int) from hd.net,hN.ref,Bq,Zt2 hN];rfl
theorem ZpL {b:Zc} {v:ZG} (hv:VOk b v) {n:Nat} (hn:n<(Zc.Yw b).length):atI (ZG.loads v) (n:Int)=some (ldF b n):=by
  rw[Zo,hv.loads,List.getElem?_map,List.getElem?_range hn];rfl
theorem ZrI {b:Zc} {v:ZG} (hv:VOk b v) {n:Nat} (hn:n<(Zc.Yw b).length):atI (ZG.ZfX v) (n:Int)=some (edF b n):=by
  rw[Zo,hv.ZfX,List.getElem?_map,List.getElem?_range hn];rfl
theorem ZrR {c:Zt} (h:Vs c) (kind:Int) (m:Int):∃ F,Vw c kind m=some F/\Zbp c kind m=some F/\0<=F/\F<=5000:=by
  obtain ⟨_,⟨a1,a2,a3⟩,⟨b1,b2,b3⟩⟩:=h;unfold Vw Zbp;by_cases k1:kind=1
  · by_cases m0:m=0
    · simp only[k1,m0,if_true]
      exact ⟨_,rfl,rfl,by omega,by omega⟩
    · simp only[k1,m0,if_true,if_false]
      exact ⟨_,rfl,rfl,by omega,by omega⟩
  · by_cases m0:m=0
    · simp only[k1,m0,if_true,if_false]
      exact ⟨_,rfl,rfl,by omega,by omega⟩
    · simp only[k1,m0,if_false]
      exact ⟨_,rfl,rfl,by omega,by omega⟩
theorem Zqc {q F m:Int} (q1:-1000000<=q) (q2:q<=1000000) (F0:0<=F) (F1:F<=5000) (hm:m=0\/m=1):∃ r,Ze9 q F m=some r/\Yz (Wq (q*F)) (1000:Int) m=some r/\-5000000<=r/\r<=5000000:=by
  have p:=ZkG q1 q2 F0;obtain ⟨r,hr,hb⟩:=Zmp (a:=q*F) (b:=1000) (m:=m) (by omega) (by omega) (by omega) hm;have hb:=hb 5000000 (by omega) (by omega);unfold Ze9;rw[Zfr,YI (n:=q*F) (by omega) (by omega),hr];exact ⟨r,rfl,rfl,hb.2.1 (by omega),hb.1 (by omega)⟩
theorem ZjN {b:Zc} (h:XT b) {v:ZG} (hv:VOk b v) {c:Zt} (hc:Vs c) {k:Nat} {x:Zm} (hx:(Zr b)[k]?=some x) (s:Int) {m:Int} (hm:m=0\/m=1) :
    ∃ r,Q6 v c (k:Int) s m=some r/\JL b c x s m=some r/\-5000000<=r/\r<=5000000:=by
  obtain ⟨y,n,hd⟩:=ZnC h (List.mem_of_getElem? hx);obtain ⟨F,F1,F2,F3,F4⟩:=ZrR hc (Zm.Kind x) m;have hl:atI (ZG.links v) (k:Int)=some x:=by rw[hv.links,Zo];exact hx
  unfold Q6 JL;rw[hl,Bq,ZpY hv hd,Bq];rcases hd.kind with hC | hW
  · obtain ⟨a,t1,t2,c1,c2,c3,c4,c5,c6,_⟩:=ZlI h hv hd hC
    obtain ⟨q,q1,q2,q3,q4⟩:=look_eq c4 s (ldF b n) hm;obtain ⟨r,r1,r2,r3,r4⟩:=Zqc q3 q4 F3 F4 hm;refine ⟨r,?_,?_,r3,r4⟩
    · rw[if_pos hC.1,ZpL hv hd.few,Bq,c1,Bq,c3,Bq,q1,Bq,F1,Bq,r1]
      rfl
    · rw[if_pos hC.1,c2,Bq]
      show (atI (ZB.Delay a) _).bind _=_;rw[c3,Bq];show (ZaD t1 s (ldF b n) m).bind _=_;rw[q2,Bq,F2,Bq,r2];rfl
  · obtain ⟨hk,w,j,z,e1,e2,e3⟩:=hW
    obtain ⟨ld,hN⟩:=Zzo h e1;obtain ⟨f,f1,f2⟩:=ZmV hN hm;obtain ⟨g1,g2,g3⟩:=f1 z (List.mem_of_getElem? e3);obtain ⟨r,r1,r2,r3,r4⟩:=Zqc (q:=f z) (by omega) (by omega) F3 F4 hm;have hne:¬Zm.Kind x=1:=by omega
    refine ⟨r,?_,?_,r3,r4⟩
    · rw[if_neg hne,ZrI hv hd.few,Bq,Zsg hN,e2,Zo,List.getElem?_map,e3,Option.map_some,Bq,Zfr,g1,Bq,F1,Bq,r1]
      rfl
    · rw[if_neg hne,ZnA h hd,Bq,f2,Bq,e2,Zo,List.getElem?_map,e3,Option.map_some,Bq,F2,Bq,r2]
      rfl
theorem ZmW {b:Zc} (h:XT b) {v:ZG} (hv:VOk b v) {k:Nat} {x:Zm} (hx:(Zr b)[k]?=some x) {s:Int} (s1:-1000000<=s) (s2:s<=1000000) {m:Int} (hm:m=0\/m=1) :
    ∃ r,YE v (k:Int) s m=some r/\ZaH b x s m=some r/\-1000000<=r/\r<=1000000:=by
  obtain ⟨y,n,hd⟩:=ZnC h (List.mem_of_getElem? hx);have hl:atI (ZG.links v) (k:Int)=some x:=by rw[hv.links,Zo];exact hx
  unfold YE ZaH;rw[hl,Bq,ZpY hv hd,Bq];rcases hd.kind with hC | hW
  · obtain ⟨a,t1,t2,c1,c2,c3,c4,c5,c6,_⟩:=ZlI h hv hd hC
    obtain ⟨q,q1,q2,q3,q4⟩:=look_eq c6 s (ldF b n) hm;refine ⟨q,?_,?_,q3,q4⟩
    · rw[if_pos hC.1,ZpL hv hd.few,Bq,c1,Bq,c5,Bq,q1,Bq,Int.min_eq_left q4]
    · rw[if_pos hC.1,c2,Bq]
      show (atI (ZB.Xx a) _).bind _=_;rw[c5,Bq];show (ZaD t2 s (ldF b n) m).bind _=_;rw[q2];rfl
  · obtain ⟨hk,w,j,z,e1,e2,e3⟩:=hW
    obtain ⟨ld,hN⟩:=Zzo h e1;obtain ⟨g1,g2,g3⟩:=hN.sink (List.mem_of_getElem? e3);obtain ⟨q,q1,q2,q3⟩:=Ztb (s:=s) (d:=sdl w ld z) (m:=m) s1 s2 g2 g3 hm;have hne:¬Zm.Kind x=1:=by omega
    refine ⟨Min.min q 1000000,?_,?_,by omega,by omega⟩
    · rw[if_neg hne,ZrI hv hd.few,Bq,Zsg hN,e2,Zo,List.getElem?_map,e3,Option.map_some,Bq,q1]
      rfl
    · rw[if_neg hne,ZnA h hd,Bq]
      unfold Zgx;rw[Zo,e1,Bq,e2,Zo,e3,Bq,ZkW hN,Bq,g1,Bq,q3,Bq,Int.min_comm]
theorem spans_eq {b:Zc} (h:XT b) {v:ZG} (hv:VOk b v) {c:Zt} (hc:Vs c) {k:Nat} {x:Zm} (hx:(Zr b)[k]?=some x) {s:Zv} (s1:-1000000<=Zv.Early s/\Zv.Early s<=1000000) (s2:-1000000<=Zv.Late s/\Zv.Late s<=1000000) :
    ∃ d o:Zv,Jg v c (k:Int) s=some (d,o)/\ZcU b c x s=some (d,o)/\(-5000000<=Zv.Early d/\Zv.Early d<=5000000)/\(-5000000<=Zv.Late d/\Zv.Late d<=5000000)/\(-1000000<=Zv.Early o/\Zv.Early o<=1000000)/\(-1000000<=Zv.Late o/\Zv.Late o<=1000000):=by
  obtain ⟨d1,a1,b1,c1⟩:=ZjN h hv hc hx (Zv.Early s) (.inl rfl:(0:Int)=0\/(0:Int)=1);obtain ⟨d2,a2,b2,c2⟩:=ZjN h hv hc hx (Zv.Late s) (.inl rfl:(0:Int)=0\/(0:Int)=1);obtain ⟨d3,a3,b3,c3⟩:=ZjN h hv hc hx (Zv.Early s) (.inr rfl:(1:Int)=0\/(1:Int)=1);obtain ⟨d4,a4,b4,c4⟩:=ZjN h hv hc hx (Zv.Late s) (.inr rfl:(1:Int)=0\/(1:Int)=1);obtain ⟨o1,e1,f1,g1⟩:=ZmW h hv hx s1.1 s1.2 (.inl rfl:(0:Int)=0\/(0:Int)=1);obtain ⟨o2,e2,f2,g2⟩:=ZmW h hv hx s2.1 s2.2 (.inl rfl:(0:Int)=0\/(0:Int)=1);obtain ⟨o3,e3,f3,g3⟩:=ZmW h hv hx s1.1 s1.2 (.inr rfl:(1:Int)=0\/(1:Int)=1);obtain ⟨o4,e4,f4,g4⟩:=ZmW h hv hx s2.1 s2.2 (.inr rfl:(1:Int)=0\/(1:Int)=1);have hl:atI (ZG.links v) (k:Int)=some x:=by rw[hv.links,Zo];exact hx
  refine ⟨(Min.min d1 d2,Max.max d3 d4,()),(Min.min o1 o2,Max.max o3 o4,()),?_,?_,?_,?_,?_,?_⟩
  · unfold Jg
    rw[a1,a2,a3,a4,hl,hv.extras];simp only[Bq];rw[if_neg (by simp),e1,e2,e3,e4];rfl
  · unfold ZcU
    rw[b1,b2,b3,b4,f1,f2,f3,f4];rfl
  · show _<=Min.min d1 d2/\Min.min d1 d2<=_;omega
  · show _<=Max.max d3 d4/\Max.max d3 d4<=_;omega
  · show _<=Min.min o1 o2/\Min.min o1 o2<=_;omega
  · show _<=Max.max o3 o4/\Max.max o3 o4<=_;omega
def Zef (s:Zv):Prop:=0<=Zv.Early s/\Zv.Early s<=Zv.Late s/\Zv.Late s<=1000000
theorem Zf5 (s:Zv):Za0 s=some (tr (Zef s)):=by
  unfold Za0 Zef;exact YS (λ_=>YS (λ_=>ZcY decide_eq_true_iff))
def JN (s:Zv):Prop:=(-1000000000<=Zv.Early s/\Zv.Early s<=1000000000)/\(-1000000000<=Zv.Late s/\Zv.Late s<=1000000000)/\Zv.Early s<=Zv.Late s
theorem Zbi (s:Zv):JB s=some (tr (JN s)):=by
  unfold JB JN Zfx;exact YT (Zb9 (Jm _ _ _)) (λ_=>YT (Zb9 (Jm _ _ _)) (λ_=>ZcY decide_eq_true_iff))
theorem Zf1 (s:Zv):Zcj s=some (tr (Zef s)):=by
  unfold Zcj Zfw;refine ZdY (YT (Zbi s) (λ_=>YT (Zb9 (Jm _ _ _)) (λ_=>Zb9 (Zb9 (Jm _ _ _))))) ?_;unfold Zef JN;omega
theorem Zdr (s:Zv):JH s=some (tr (JN s)):=by
  unfold JH JN;exact YT (JD _ _ _) (λ_=>YT (JD _ _ _) (λ_=>ZcY decide_eq_true_iff))
def Zbt (n:Int) (l:List Zh) (k:Nat) (x:Zh):Prop :=
  (0<=Zh.Node x/\Zh.Node x<=n-1)/\(∀ y,0<k->l[k-1]?=some y->Zh.Node y<Zh.Node x)/\JN (Zh.ZA x)/\Zef (Zh.Xx x)
theorem ZeV {b:Zc} (h:XT b) (l:List Zh) (hl:l.length<=1048576):ZcT b l=some (tr (ZdQ l (Zbt (2*((places (Zc.Design b)).length:Int)) l))):=by
  have hf:=h.ok.1.few;have hpl:=YK hf;unfold ZcT Y6;rw[YW _ hf,Bq,Bq,YI (n:=2*((places (Zc.Design b)).length:Int)) (by omega) (by omega)];rw[QC (l:=l) (show Len l by unfold Len;omega) (Zbt (2*((places (Zc.Design b)).length:Int)) l) (bad:=false) (good:=true)
    (step:=λv=>VR l (2*((places (Zc.Design b)).length:Int)) v.1)
    (λk x hx hk _=>by
      simp only[VR,show (k:Int)<(l.length:Int) from by omega,if_true,Zo,hx,Bq,JD,Zdr,Zf5,YI (show (-9223372036854775808:Int)<=2*((places (Zc.Design b)).length:Int)-1 by omega) (by omega)];unfold Zbt;have fin:∀ (Q:Prop),(Q<->JN (Zh.ZA x)/\Zef (Zh.Xx x))->((Q->(if tr (JN (Zh.ZA x))=true then if tr (Zef (Zh.Xx x))=true then some (.inl (Wq ((k:Int)+1),())) else some (.inr false) else some (.inr false):Option ((Int×Unit) ⊕ Bool))=some (.inl (Wq ((k:Int)+1),())))/\
          (¬Q->(if tr (JN (Zh.ZA x))=true then if tr (Zef (Zh.Xx x))=true then some (.inl (Wq ((k:Int)+1),())) else some (.inr false) else some (.inr false):Option ((Int×Unit) ⊕ Bool))=some (.inr false))):=by
        intro Q hQ;constructor
        · intro q
          rw[if_pos (ZU (hQ.1 q).1),if_pos (ZU (hQ.1 q).2)]
        · intro q
          by_cases s1:JN (Zh.ZA x)
          · rw[if_pos (ZU s1),if_neg (λs2=>q (hQ.2 ⟨s1,(YH _).1 s2⟩))]
          · rw[if_neg (λs2=>s1 ((YH _).1 s2))]
      by_cases q1:0<=Zh.Node x/\Zh.Node x<=2*((places (Zc.Design b)).length:Int)-1
      · rw[if_pos (ZU q1)]
        by_cases hk0:k=0
        · subst hk0
          rw[if_neg (show ¬(0:Int)<((0:Nat):Int) by omega)];refine fin _ ⟨λq=>q.2.2,λq=>⟨q1,λy h=>by omega,q⟩⟩
        · have hy:l[k-1]?=some l[k-1]:=List.getElem?_eq_getElem (by omega)
          have hy2:atI l ((k:Int)-1)=some l[k-1]:=Qn (by omega) (by rw[<-hy];congr 1;omega);generalize l[k-1]=y at hy hy2;rw[if_pos (by omega),YI (n:=(k:Int)-1) (by omega) (by omega),hy2,Bq];by_cases q2:Zh.Node x<=Zh.Node y
          · rw[if_pos q2]
            exact ⟨λq=>by have:=q.2.1 y (by omega) hy;omega,λ_=>rfl⟩
          · rw[if_neg q2]
            refine fin _ ⟨λq=>q.2.2,λq=>⟨q1,λz _ hz=>?_,q⟩⟩;rw[hy] at hz;injection hz with hz;subst hz;omega
      · rw[if_neg (λq=>q1 ((YH _).1 q))]
        exact ⟨λq=>absurd q.1 q1,λ_=>rfl⟩)
    (λ_=>by simp only[VR,Int.lt_irrefl,if_false]),Zfe]
theorem ZeH {b:Zc} (h:XT b) (v:ZG) (hv:ZG.places v=places (Zc.Design b)) (l:List Zh) (hl:l.length<=1048576):QI v l=some (tr (ZdQ l (Zbt (2*((places (Zc.Design b)).length:Int)) l))):=by
  have hf:=h.ok.1.few;have hpl:=YK hf;have hnode:∀ n,Zbx v n=some (tr (0<=n/\n<=2*((places (Zc.Design b)).length:Int)-1)):=by
    intro n;unfold Zbx YA;rw[show Y3 (ZG.places v)=some ((ZG.places v).length:Int) from rfl,Bq,Bq,hv,YI (n:=2*((places (Zc.Design b)).length:Int)) (by omega) (by omega),YI (by omega) (by omega)];exact Zb9 (Jm _ _ _)
  unfold QI;rw[QC (l:=l) (show Len l by unfold Len;omega) (Zbt (2*((places (Zc.Design b)).length:Int)) l) (bad:=false) (good:=true)
    (step:=λu=>Qf v l u.1)
    (λk x hx hk _=>by
      simp only[Qf,show (k:Int)<(l.length:Int) from by omega,if_true,Zo,hx,Bq,hnode,Zbi,Zf1];unfold Zbt;by_cases q1:0<=Zh.Node x/\Zh.Node x<=2*((places (Zc.Design b)).length:Int)-1
      · rw[if_pos (ZU q1)]
        by_cases q3:JN (Zh.ZA x)
        · rw[if_pos (ZU q3)]
          by_cases q4:Zef (Zh.Xx x)
          · rw[if_pos (ZU q4)]
            by_cases hk0:k=0
            · subst hk0
              rw[if_neg (show ¬(0:Int)<((0:Nat):Int) by omega)];exact ⟨λ_=>rfl,λq=>absurd ⟨q1,λy h=>by omega,q3,q4⟩ q⟩
            · have hy:l[k-1]?=some l[k-1]:=List.getElem?_eq_getElem (by omega)
              have hy2:atI l ((k:Int)-1)=some l[k-1]:=Qn (by omega) (by rw[<-hy];congr 1;omega);generalize l[k-1]=y at hy hy2;rw[if_pos (by omega),YI (n:=(k:Int)-1) (by omega) (by omega),hy2,Bq];by_cases q2:Zh.Node x<=Zh.Node y
              · rw[if_pos q2]
                exact ⟨λq=>by have:=q.2.1 y (by omega) hy;omega,λ_=>rfl⟩
              · rw[if_neg q2]
                refine ⟨λ_=>rfl,λq=>absurd ⟨q1,λz _ hz=>?_,q3,q4⟩ q⟩;rw[hy] at hz;injection hz with hz;subst hz;omega
          · rw[if_neg (λq=>q4 ((YH _).1 q))]
            exact ⟨λq=>absurd q.2.2.2 q4,λ_=>rfl⟩
        · rw[if_neg (λq=>q3 ((YH _).1 q))]
          exact ⟨λq=>absurd q.2.2.1 q3,λ_=>rfl⟩
      · rw[if_neg (λq=>q1 ((YH _).1 q))]
        exact ⟨λq=>absurd q.1 q1,λ_=>rfl⟩)
    (λ_=>by simp only[Qf,Int.lt_irrefl,if_false]),Zfe]
def Zero (s:Zv):Prop:=Zv.Early s=0/\Zv.Late s=0
def Zqk (t:Ze) (k:Nat) (r:Bool):Prop :=
  ∃ a s,(Ze.ZA t)[k]?=some a/\(Ze.Xx t)[k]?=some s/\JN a/\Zef s/\(r=false->Zero a/\Zero s)
def Zlc (n:Int) (t:Ze):Prop :=
  ((Ze.Reached t).length:Int)=n/\((Ze.ZA t).length:Int)=n/\((Ze.Xx t).length:Int)=n/\ZdQ (Ze.Reached t) (Zqk t)
theorem Zqg {ρ:Type} {t:Ze} {k:Nat} {x:Bool} {a s:Zv} {nx bd:ρ} (ha:(Ze.ZA t)[k]?=some a) (hs:(Ze.Xx t)[k]?=some s) :
    (Zqk t k x->((if tr (JN a)=true then (if tr (Zef s)=true then (if x=true then some nx else if (Decidable.decide (Zv.Early a=(0:Int))&&Decidable.decide (Zv.Late a=(0:Int)))=true then (if (Decidable.decide (Zv.Early s=(0:Int))&&Decidable.decide (Zv.Late s=(0:Int)))=true then some nx else some bd) else some bd) else some bd) else some bd):Option ρ)=some nx)/\
    (¬Zqk t k x->((if tr (JN a)=true then (if tr (Zef s)=true then (if x=true then some nx else if (Decidable.decide (Zv.Early a=(0:Int))&&Decidable.decide (Zv.Late a=(0:Int)))=true then (if (Decidable.decide (Zv.Early s=(0:Int))&&Decidable.decide (Zv.Late s=(0:Int)))=true then some nx else some bd) else some bd) else some bd) else some bd):Option ρ)=some bd):=by
  have hT:Zqk t k x<->JN a/\Zef s/\(x=false->Zero a/\Zero s):=by
    constructor
    · rintro ⟨a',s',h1,h2,h3⟩
      rw[ha] at h1;rw[hs] at h2;injection h1 with h1;injection h2 with h2
      subst h1;subst h2;exact h3
    · exact λh=>⟨a,s,ha,hs,h⟩
  rw[hT];have hz:∀ u:Zv,((Decidable.decide (Zv.Early u=(0:Int))&&Decidable.decide (Zv.Late u=(0:Int)))=true)<->Zero u:=λu=>by
    unfold Zero;rw[Bool.and_eq_true,decide_eq_true_eq,decide_eq_true_eq]
  by_cases c1:JN a
  · rw[if_pos (ZU c1)]
    by_cases c2:Zef s
    · rw[if_pos (ZU c2)]
      cases x
      · rw[if_neg (by decide)]
        by_cases c3:Zero a
        · rw[if_pos ((hz a).2 c3)]
          by_cases c4:Zero s
          · rw[if_pos ((hz s).2 c4)]
            exact ⟨λ_=>rfl,λq=>absurd ⟨c1,c2,λ_=>⟨c3,c4⟩⟩ q⟩
          · rw[if_neg (λq=>c4 ((hz s).1 q))]
            exact ⟨λq=>absurd (q.2.2 rfl).2 c4,λ_=>rfl⟩
        · rw[if_neg (λq=>c3 ((hz a).1 q))]
          exact ⟨λq=>absurd (q.2.2 rfl).1 c3,λ_=>rfl⟩
      · rw[if_pos rfl]
        exact ⟨λ_=>rfl,λq=>absurd ⟨c1,c2,λh=>by cases h⟩ q⟩
    · rw[if_neg (λq=>c2 ((YH _).1 q))]
      exact ⟨λq=>absurd q.2.1 c2,λ_=>rfl⟩
  · rw[if_neg (λq=>c1 ((YH _).1 q))]
    exact ⟨λq=>absurd q.1 c1,λ_=>rfl⟩
theorem ZjD {b:Zc} (h:XT b) (v:ZG) (hv:ZG.places v=places (Zc.Design b)) (t:Ze):Zai v t=some (tr (Zlc (2*((places (Zc.Design b)).length:Int)) t)):=by
  have hpl:=YK h.ok.1.few;unfold Zai YA;rw[show Y3 (ZG.places v)=some ((ZG.places v).length:Int) from rfl,Bq,Bq,hv,YI (n:=2*((places (Zc.Design b)).length:Int)) (by omega) (by omega),
    show ZdJ (Ze.Reached t)=some ((Ze.Reached t).length:Int) from rfl,show Qr (Ze.ZA t)=some ((Ze.ZA t).length:Int) from rfl,show Qr (Ze.Xx t)=some ((Ze.Xx t).length:Int) from rfl]
  simp only[Bq];unfold Zlc;refine YS λq1=>YS λq2=>YS λq3=>?_;rw[QC (l:=Ze.Reached t) (show Len (Ze.Reached t) by unfold Len;omega) (Zqk t) (bad:=false) (good:=true) (step:=λv=>Qv t v.1)
    (λk x hx hk _=>by
      have ha:(Ze.ZA t)[k]?=some ((Ze.ZA t)[k]'(by omega)):=List.getElem?_eq_getElem _;have hs:(Ze.Xx t)[k]?=some ((Ze.Xx t)[k]'(by omega)):=List.getElem?_eq_getElem _;generalize (Ze.ZA t)[k]'(by omega)=a at ha;generalize (Ze.Xx t)[k]'(by omega)=s at hs;simp only[Qv,show (k:Int)<((Ze.Reached t).length:Int) from by omega,if_true,Zo,hx,ha,hs,Bq,Zbi,Zf1];exact Zqg ha hs)
    (λ_=>by simp only[Qv,Int.lt_irrefl,if_false]),Zfe]
theorem ZiR {n:Int} (h0:0<=n) (h1:n<=1048576) (t:Ze):Zdu n t=some (tr (Zlc n t)):=by
  unfold Zdu Zlc;refine YS λq1=>YS λq2=>YS λq3=>?_;rw[QC (l:=Ze.Reached t) (show Len (Ze.Reached t) by unfold Len;omega) (Zqk t) (bad:=false) (good:=true) (step:=λv=>V7 t v.1)
    (λk x hx hk _=>by
      have ha:(Ze.ZA t)[k]?=some ((Ze.ZA t)[k]'(by omega)):=List.getElem?_eq_getElem _;have hs:(Ze.Xx t)[k]?=some ((Ze.Xx t)[k]'(by omega)):=List.getElem?_eq_getElem _;generalize (Ze.ZA t)[k]'(by omega)=a at ha;generalize (Ze.Xx t)[k]'(by omega)=s at hs;simp only[V7,show (k:Int)<((Ze.Reached t).length:Int) from by omega,if_true,Zo,hx,ha,hs,Bq,Zdr,Zf5];exact Zqg ha hs)
    (λ_=>by simp only[V7,Int.lt_irrefl,if_false]),Zfe]
theorem ZjM {b:Zc} (h:Few (Zc.Design b)):Y6 b=some (2*((places (Zc.Design b)).length:Int)):=by
  have hpl:=YK h;unfold Y6;rw[YW _ h,Bq,YI (by omega) (by omega)]
abbrev NSt:=Option (Zv×Zv)
def Jq:Zv:=((0:Int),(0:Int),())
def hul (a b:Zv):Zv:=(Min.min (Zv.Early a) (Zv.Early b),Max.max (Zv.Late a) (Zv.Late b),())
def Zr9 (st:NSt) (a s:Zv):NSt:=match st with
  | none=>some (a,s)
  | some q=>some (hul q.1 a,hul q.2 s)
def ZmP (a d:Zv):Zv:=(Wq (Zv.Early a+Zv.Early d),Wq (Zv.Late a+Zv.Late d),())
def encI (node:Int) (st:NSt):Int×Int×Int×Int×Int×Bool×Unit:=match st with
  | none=>(node,0,0,0,0,false,())
  | some q=>(node,Zv.Early q.1,Zv.Late q.1,Zv.Early q.2,Zv.Late q.2,true,())
def ZnU (node:Int) (st:NSt):Bool×Zh:=match st with
  | none=>(false,((0:Int),Jq,Jq,()))
  | some q=>(true,(node,q.1,q.2,()))
theorem ZpD (a b:Zv):hul a b=hul b a:=by unfold hul;rw[Int.min_comm,Int.max_comm]
noncomputable def spn (b:Zc) (c:Zt) (x:Zm) (s:Zv):Zv×Zv:=(ZcU b c x s).getD (Jq,Jq)
noncomputable def Zl6 (b:Zc) (c:Zt) (t:Ze) (x:Zm) (st:NSt):NSt :=
  if (atI (Ze.Reached t) (Zm.From x)).getD false=true then Zr9 st (ZmP ((atI (Ze.ZA t) (Zm.From x)).getD Jq) (spn b c x ((atI (Ze.Xx t) (Zm.From x)).getD Jq)).1) (spn b c x ((atI (Ze.Xx t) (Zm.From x)).getD Jq)).2 else st
def Zth (s:Zv):Prop:=(-1000000<=Zv.Early s/\Zv.Early s<=1000000)/\(-1000000<=Zv.Late s/\Zv.Late s<=1000000)
structure Zf9 (n:Nat) (t:Ze):Prop where
  lr:(Ze.Reached t).length=n
  la:(Ze.ZA t).length=n
  ls:(Ze.Xx t).length=n
  sl:∀ s∈Ze.Xx t,Zth s
theorem ZoA {b:Zc} (h:XT b) {t:Ze} (ht:Zf9 (2*(places (Zc.Design b)).length) t) {x:Zm} (hx:x∈Zr b) :
    ∃ r a s,atI (Ze.Reached t) (Zm.From x)=some r/\atI (Ze.ZA t) (Zm.From x)=some a/\atI (Ze.Xx t) (Zm.From x)=some s/\Zth s:=by
  have hf:=(ZdW h hx).1;obtain ⟨r,hr,_⟩:=Zfm (l:=Ze.Reached t) hf.1 (by rw[ht.lr];omega);obtain ⟨a,ha,_⟩:=Zfm (l:=Ze.ZA t) hf.1 (by rw[ht.la];omega);obtain ⟨s,hs,hm⟩:=Zfm (l:=Ze.Xx t) hf.1 (by rw[ht.ls];omega);exact ⟨r,a,s,hr,ha,hs,ht.sl s hm⟩
theorem Znt (node:Int) (st:NSt) (a s:Zv):∃ j,Vn (node,((encI node st).2.1,(encI node st).2.2.1,()),((encI node st).2.2.2.1,(encI node st).2.2.2.2.1,()),()) (encI node st).2.2.2.2.2.1 a s=some j/\(j.fst.fst,j.fst.snd.fst.fst,j.fst.snd.fst.snd.fst,j.fst.snd.snd.fst.fst,j.fst.snd.snd.fst.snd.fst,j.snd,())=encI node (Zr9 st a s):=by
  cases st with
  | none=>exact ⟨_,rfl,rfl⟩
  | some q=>exact ⟨_,rfl,rfl⟩
theorem Zlm {b:Zc} (h:XT b) {v:ZG} (hv:VOk b v) {c:Zt} (hc:Vs c) {live:List Bool} {t:Ze} (ht:Zf9 (2*(places (Zc.Design b)).length) t) {L:List Int} {node:Int} {m k:Nat} {x:Zm} (hm:L[m]?=some (k:Int)) (hx:(Zr b)[k]?=some x) (hL:m<=1048576) (st:NSt) :
    YO (v,live,()) c t L (m:Int) (encI node st).1 (encI node st).2.1 (encI node st).2.2.1 (encI node st).2.2.2.1 (encI node st).2.2.2.2.1 (encI node st).2.2.2.2.2.1=some (.inl (((m+1:Nat):Int),encI node (Zl6 b c t x st))):=by
  have hk:=(List.getElem?_eq_some_iff.1 hm).1;obtain ⟨r,a,s,hr,ha,hs,hsb⟩:=ZoA h ht (List.mem_of_getElem? hx);obtain ⟨d,o,e1,e2,_⟩:=spans_eq h hv hc hx hsb.1 hsb.2;have hl:atI (ZG.links (Ya.view ((v,live,()):Ya))) (k:Int)=some x:=by
    show atI (ZG.links v) (k:Int)=some x;rw[hv.links,Zo];exact hx
  have hsp:spn b c x s=(d,o):=by unfold spn;rw[e2];rfl
  have hu:Zl6 b c t x st=if r=true then Zr9 st (ZmP a d) o else st:=by
    unfold Zl6;rw[hr,ha,hs];simp only[Option.getD_some,hsp]
  have hn:(encI node st).1=node:=by cases st<;>rfl
  obtain ⟨j,j1,j2⟩:=Znt node st (ZmP a d) o;unfold YO;rw[if_pos (by omega),Zo,hm,Bq,hl,Bq,hr,Bq,hu];by_cases q:r=true
  · rw[if_pos q,if_pos q,hs,Bq]
    show (Jg v c (k:Int) s).bind _=_;rw[e1,Bq,ha,Bq];show (Vn _ _ (ZmP a d) o).bind _=_;rw[hn,j1,Bq,Y8 hL,<-j2]
  · rw[if_neg q,if_neg q,Y8 hL]
theorem Zmx {g:Ya} {c:Zt} {t:Ze} {L:List Int} {node:Int} (st:NSt) :
    YO g c t L (L.length:Int) (encI node st).1 (encI node st).2.1 (encI node st).2.2.1 (encI node st).2.2.2.1 (encI node st).2.2.2.2.1 (encI node st).2.2.2.2.2.1=some (.inr (ZnU node st)):=by
  unfold YO;rw[if_neg (Int.lt_irrefl _)];cases st<;>rfl
theorem Zll {b:Zc} (h:XT b) {v:ZG} (hv:VOk b v) {c:Zt} (hc:Vs c) {live:List Bool} {t:Ze} (ht:Zf9 (2*(places (Zc.Design b)).length) t) {L:List Int} {node:Int} (hl:L.length<=1048576) {f:Int->NSt->NSt}
    (hf:∀ y∈L,∃ (k:Nat) (x:Zm),y=(k:Int)/\(Zr b)[k]?=some x/\∀ st,f y st=Zl6 b c t x st) (st0:NSt) :
    Zp (λu=>YO (v,live,()) c t L u.1 u.2.1 u.2.2.1 u.2.2.2.1 u.2.2.2.2.1 u.2.2.2.2.2.1 u.2.2.2.2.2.2.1) ((0:Int),encI node st0)=some (ZnU node (foldI (λ_ y st=>f y st) 0 L st0)):=by
  refine Zec (l:=L) (by unfold Len;omega) (λst i=>(i,encI node st)) (f:=λ_ y st=>f y st) (s0:=st0) (λ_ _=>True) trivial (λm y st hy _ _=>⟨?_,trivial⟩) (λst _ he=>?_)
  · have hm:=(List.getElem?_eq_some_iff.1 hy).1
    obtain ⟨k,x,rfl,hx,hu⟩:=hf y (List.mem_of_getElem? hy);rw[hu,Y8 (by omega)];exact Zlm h hv hc ht hy hx (by omega) st
  · rw[<-he]
    exact Zmx st
def encS (node:Int) (st:NSt) (i:Int):Bool×Int×Int×Int×Int×Int×Int×Unit:=match st with
  | none=>(false,i,0,0,0,0,0,())
  | some q=>(true,i,node,Zv.Early q.1,Zv.Late q.1,Zv.Early q.2,Zv.Late q.2,())
theorem Zlx {b:Zc} (h:XT b) {v:ZG} (hv:VOk b v) {c:Zt} (hc:Vs c) {live:List Bool} {t:Ze} (ht:Zf9 (2*(places (Zc.Design b)).length) t) {node:Int} {k:Nat} {x:Zm} {lv:Bool} (hx:(Zr b)[k]?=some x) (hlv:live[k]?=some lv) (hk:k<=1048576) (st:NSt) :
    Xw b c (Zr b) live t node (encS node st (k:Int)).1 (k:Int) (encS node st (k:Int)).2.2.1 (encS node st (k:Int)).2.2.2.1 (encS node st (k:Int)).2.2.2.2.1 (encS node st (k:Int)).2.2.2.2.2.1 (encS node st (k:Int)).2.2.2.2.2.2.1=some (.inl (encS node (if lv=true then (if Zm.To x=node then Zl6 b c t x st else st) else st) ((k+1:Nat):Int))):=by
  have hkl:=(List.getElem?_eq_some_iff.1 hx).1;obtain ⟨r,a,s,hr,ha,hs,hsb⟩:=ZoA h ht (List.mem_of_getElem? hx);obtain ⟨d,o,e1,e2,_⟩:=spans_eq h hv hc hx hsb.1 hsb.2;have hsp:spn b c x s=(d,o):=by unfold spn;rw[e2];rfl
  have hu:Zl6 b c t x st=if r=true then Zr9 st (ZmP a d) o else st:=by
    unfold Zl6;rw[hr,ha,hs];simp only[Option.getD_some,hsp]
  unfold Xw;rw[if_pos (by omega),Zo,hx,Bq,Zo,hlv,Bq,Y8 hk];by_cases q1:lv=true
  · rw[if_pos q1,if_pos q1]
    by_cases q2:Zm.To x=node
    · rw[if_pos q2,if_pos q2,hr,Bq,hu]
      by_cases q3:r=true
      · rw[if_pos q3,if_pos q3,hs,Bq,e2,Bq,ha,Bq]
        cases st with
        | none=>rfl
        | some q =>
          show some (Sum.inl (true,((k+1:Nat):Int),node,Zv.Early (hul (ZmP a d) q.1),Zv.Late (hul (ZmP a d) q.1),Zv.Early (hul o q.2),Zv.Late (hul o q.2),()))=_;rw[ZpD (ZmP a d),ZpD o];rfl
      · rw[if_neg q3,if_neg q3]
        cases st<;>rfl
    · rw[if_neg q2,if_neg q2]
      cases st<;>rfl
  · rw[if_neg q1,if_neg q1]
    cases st<;>rfl
def toF (live:List Bool) (node:Int) (k:Nat) (x:Zm):List Int:=if (live[k]?).getD false=true then (if Zm.To x=node then [(k:Int)] else []) else []
def toL (b:Zc) (live:List Bool) (node:Int):List Int:=cat (toF live node) 0 (Zr b)
theorem Zwe (live:List Bool) (node:Int) (k:Nat) (x:Zm):(toF live node k x).length<=1:=by
  unfold toF;split
  · split<;>simp
  · simp
theorem Zs0 {b:Zc} (h:XT b) (live:List Bool) (node:Int) (n:Nat):(cat (toF live node) 0 ((Zr b).take n)).length<=6000:=by
  have h1:=V9 (f:=toF live node) (c:=1) (l:=(Zr b).take n) (m:=0) (λk x _=>Zwe live node k x);have h2:=XH h;rw[List.length_take] at h1;omega
theorem ZoE {b:Zc} (h:XT b) {v:ZG} (hv:VOk b v) {live:List Bool} (hl:live.length=(Zr b).length) (node:Int):Zcm (v,live,()) node=some (toL b live node):=by
  have h6:=XH h;have el:ZG.links (Ya.view ((v,live,()):Ya))=Zr b:=hv.links;have ev:Ya.live ((v,live,()):Ya)=live:=rfl;unfold Zcm Xn;have:=Xy (l:=Zr b) (ρ:=List Int) (toF live node) [] (step:=λu=>Yn (v,live,()) (node,()) u.1 u.2.1) (good:=toL b live node)
    (λk x hx hk=>by
      have hlv:live[k]?=some (live[k]'(by omega)):=List.getElem?_eq_getElem _;have hlen:=Zs0 h live node k;simp only[Yn,el,ev,show (k:Int)<((Zr b).length:Int) from by omega,if_true,Zo,hx,hlv,Bq,ZdI,List.nil_append,Y8 (show k<=1048576 by omega)];unfold toF at *;rw[hlv];simp only[Option.getD_some];by_cases q1:live[k]'(by omega)=true
      · rw[if_pos q1,if_pos q1]
        by_cases q2:Zm.To x=node
        · rw[if_pos (decide_eq_true q2),if_pos q2,Zn (by simp only[List.length_cons,List.length_nil];omega)]
        · rw[if_neg (by rw[decide_eq_true_eq];exact q2),if_neg q2,List.append_nil]
      · rw[if_neg q1,if_neg q1,List.append_nil])
    (by simp only[Yn,el,Int.lt_irrefl,if_false,List.nil_append];rfl)
  rw[this];rfl
theorem Znm {β σ:Type} (f:β->σ->σ):∀ (l:List β) (m n:Nat) (s:σ),foldI (λ_ y s=>f y s) m l s=foldI (λ_ y s=>f y s) n l s
  | [],_,_,_=>rfl
  | x::l,m,n,s=>by simp only[foldI];exact Znm f l _ _ _
theorem ZhN {α β σ:Type} {g:Nat->α->List β} (f:β->σ->σ):∀ (l:List α) (m:Nat) (s:σ),foldI (λ_ y s=>f y s) 0 (cat g m l) s=foldI (λk x s=>foldI (λ_ y s=>f y s) 0 (g k x) s) m l s
  | [],_,_=>rfl
  | x::l,m,s=>by
    show foldI (λ_ y s=>f y s) 0 (g m x++cat g (m+1) l) s=_;rw[ZeD,Znm f (cat g (m+1) l) _ 0,ZhN f l (m+1)];rfl
theorem Zhg {α σ:Type} {f g:Nat->α->σ->σ}:∀ (l:List α) (m:Nat) (s:σ),(∀ k x s,l[k]?=some x->f (m+k) x s=g (m+k) x s)->foldI f m l s=foldI g m l s
  | [],_,_,_=>rfl
  | x::l,m,s,h=>by
    simp only[foldI];have h0:=h 0 x s rfl;rw[Nat.add_zero] at h0;rw[h0];refine Zhg l (m+1) _ λk y s hy=>?_;rw[show m+1+k=m+(k+1) by omega];exact h (k+1) y s (by rw[List.getElem?_cons_succ];exact hy)
def ZfR (l:List Zh) (node:Int):NSt:=foldI (λ_ x st=>if Zh.Node x=node then some (Zh.ZA x,Zh.Xx x) else st) 0 l none
def Zpb (l:List Zh):Prop:=∀ (i j:Nat) (x y:Zh),l[i]?=some x->l[j]?=some y->Zh.Node x=Zh.Node y->i=j
theorem Zm0 {l:List Zh} (hl:Len l) {b:Zc} {c:Zt} {L:List Zm} {live:List Bool} {t:Ze} {node:Int} {R:Bool×Zh}
    (hR:Zp (λv=>Xw b c L live t node v.1 v.2.1 v.2.2.1 v.2.2.2.1 v.2.2.2.2.1 v.2.2.2.2.2.1 v.2.2.2.2.2.2.1) (encS node (ZfR l node) 0)=some (.inr R)):VP b c L live l t node=some R:=by
  unfold VP;refine Zec (l:=l) hl (λst i=>encS node st i) (f:=λ_ x st=>if Zh.Node x=node then some (Zh.ZA x,Zh.Xx x) else st) (s0:=none) (λ_ _=>True) trivial (λk x st hx _ _=>⟨?_,trivial⟩) (λst _ he=>?_)
  · have hk:=(List.getElem?_eq_some_iff.1 hx).1
    have e:∀ st:NSt,(encS node st (k:Int)).2.1=(k:Int):=λst=>by cases st<;>rfl
    show VQ b c L live l t node (encS node st (k:Int)).1 (encS node st (k:Int)).2.1 (encS node st (k:Int)).2.2.1 (encS node st (k:Int)).2.2.2.1 (encS node st (k:Int)).2.2.2.2.1 (encS node st (k:Int)).2.2.2.2.2.1 (encS node st (k:Int)).2.2.2.2.2.2.1=_;rw[e];unfold VQ;rw[if_pos (by omega),Zo,hx,Bq];by_cases q:Zh.Node x=node
    · rw[if_pos q,if_pos q,q]
      rfl
    · rw[if_neg q,if_neg q]
      cases st<;>rfl
  · have es:st=ZfR l node:=he
    subst es;have e:∀ st:NSt,(encS node st (l.length:Int)).2.1=(l.length:Int):=λst=>by cases st<;>rfl
    show VQ b c L live l t node (encS node (ZfR l node) (l.length:Int)).1 (encS node (ZfR l node) (l.length:Int)).2.1 (encS node (ZfR l node) (l.length:Int)).2.2.1 (encS node (ZfR l node) (l.length:Int)).2.2.2.1 (encS node (ZfR l node) (l.length:Int)).2.2.2.2.1 (encS node (ZfR l node) (l.length:Int)).2.2.2.2.2.1 (encS node (ZfR l node) (l.length:Int)).2.2.2.2.2.2.1=_;rw[e];unfold VQ;rw[if_neg (Int.lt_irrefl _),<-hR];cases ZfR l node<;>rfl
theorem Zlw {b:Zc} (h:XT b) {v:ZG} (hv:VOk b v) {c:Zt} (hc:Vs c) {live:List Bool} (hl:live.length=(Zr b).length) {t:Ze} (ht:Zf9 (2*(places (Zc.Design b)).length) t) {node:Int} (st0:NSt) :
    Zp (λv=>Xw b c (Zr b) live t node v.1 v.2.1 v.2.2.1 v.2.2.2.1 v.2.2.2.2.1 v.2.2.2.2.2.1 v.2.2.2.2.2.2.1) (encS node st0 0)=some (.inr (ZnU node (foldI (λk x st=>if (live[k]?).getD false=true then (if Zm.To x=node then Zl6 b c t x st else st) else st) 0 (Zr b) st0))):=by
  have h6:=XH h;refine Zec (l:=Zr b) (by unfold Len;omega) (λst i=>encS node st i) (f:=λk x st=>if (live[k]?).getD false=true then (if Zm.To x=node then Zl6 b c t x st else st) else st) (s0:=st0) (λ_ _=>True) trivial (λk x st hx _ _=>⟨?_,trivial⟩) (λst _ he=>?_)
  · have hk:=(List.getElem?_eq_some_iff.1 hx).1
    have hlv:live[k]?=some (live[k]'(by omega)):=List.getElem?_eq_getElem _;have e:∀ st:NSt,(encS node st (k:Int)).2.1=(k:Int):=λst=>by cases st<;>rfl
    have:=Zlx h hv hc ht (node:=node) hx hlv (by omega) st;rw[hlv,Option.getD_some,Y8 (by omega),<-this];show Xw b c (Zr b) live t node (encS node st (k:Int)).1 (encS node st (k:Int)).2.1 _ _ _ _ _=_;rw[e]
  · rw[<-he]
    have e:∀ st:NSt,(encS node st ((Zr b).length:Int)).2.1=((Zr b).length:Int):=λst=>by cases st<;>rfl
    show Xw b c (Zr b) live t node (encS node st ((Zr b).length:Int)).1 (encS node st ((Zr b).length:Int)).2.1 _ _ _ _ _=_;rw[e];unfold Xw;rw[if_neg (Int.lt_irrefl _)];cases st<;>rfl
theorem Zm1 {node:Int}:∀ (l:List Zh) (m:Nat) (st:NSt),(∀ x∈l,Zh.Node x≠node)->foldI (λ_ x st=>if Zh.Node x=node then some (Zh.ZA x,Zh.Xx x) else st) m l st=st
  | [],_,_,_=>rfl
  | x::l,m,st,h=>by
    simp only[foldI];rw[if_neg (h x List.mem_cons_self)];exact Zm1 l (m+1) st λy hy=>h y (List.mem_cons_of_mem _ hy)
theorem Zuk {l:List Zh} (h1:Zpb l) {i:Nat} {x:Zh} (hx:l[i]?=some x) {node:Int} (hn:Zh.Node x=node):ZfR l node=some (Zh.ZA x,Zh.Xx x):=by
  have hi:=(List.getElem?_eq_some_iff.1 hx).1;have e:l=l.take i++x::l.drop (i+1):=by
    have:=List.take_append_drop i l;rw[List.drop_eq_getElem_cons hi,(List.getElem?_eq_some_iff.1 hx).2] at this;exact this.symm
  have hrest:∀ y∈l.drop (i+1),Zh.Node y≠node:=λy hy q=>by
    obtain ⟨j,hj⟩:=List.mem_iff_getElem?.1 hy;rw[List.getElem?_drop] at hj;have:=h1 i (i+1+j) x y hx hj (by rw[hn,q]);omega
  unfold ZfR;rw[e,ZeD];simp only[foldI];rw[if_pos hn];exact Zm1 _ _ _ hrest
theorem ZoZ {l:List Zh} (hl:Len l) (h1:Zpb l) (node:Int):∃ r:Zh×Bool,Zd1 l node=some r/\(r.2=true->ZfR l node=some (Zh.ZA r.1,Zh.Xx r.1))/\(r.2=false->ZfR l node=none):=by
  unfold Zd1;rw[X3 hl (λx=>decide (Zh.Node x=node)) (λx _=>rfl),Bq];unfold Zb3;cases e:l.findIdx? (λx=>decide (Zh.Node x=node)) with
  | none =>
    rw[if_neg (by decide)];refine ⟨_,rfl,(λq=>Bool.noConfusion q),λ_=>?_⟩;rw[List.findIdx?_eq_none_iff] at e;exact Zm1 l 0 none λx hx q=>by have:=e x hx;rw[decide_eq_false_iff_not] at this;exact this q
  | some i =>
    rw[List.findIdx?_eq_some_iff_getElem] at e;obtain ⟨hi,hp,_⟩:=e;have hx:l[i]?=some l[i]:=List.getElem?_eq_getElem hi;dsimp only;rw[if_pos (by omega),Zo,hx,Bq];exact ⟨_,rfl,λ_=>Zuk h1 hx (of_decide_eq_true hp),λq=>Bool.noConfusion q⟩
noncomputable def Zcr (b:Zc) (c:Zt) (live:List Bool) (l:List Zh) (t:Ze) (node:Int):NSt:=foldI (λk x st=>if (live[k]?).getD false=true then (if Zm.To x=node then Zl6 b c t x st else st) else st) 0 (Zr b) (ZfR l node)
theorem Zi6 {b:Zc} (h:XT b) {v:ZG} (hv:VOk b v) {c:Zt} (hc:Vs c) {live:List Bool} (hl:live.length=(Zr b).length) {t:Ze} (ht:Zf9 (2*(places (Zc.Design b)).length) t) {l:List Zh} (hs:Len l) (node:Int) :
    VP b c (Zr b) live l t node=some (ZnU node (Zcr b c live l t node)) :=
  Zm0 hs (Zlw h hv hc hl ht (ZfR l node))
theorem Zi1 {b:Zc} (h:XT b) {v:ZG} (hv:VOk b v) {c:Zt} (hc:Vs c) {live:List Bool} (hl:live.length=(Zr b).length) {t:Ze} (ht:Zf9 (2*(places (Zc.Design b)).length) t) {l:List Zh} (hs:Len l) (h1:Zpb l) (node:Int) :
    Y1 (v,live,()) c l t node=some (ZnU node (Zcr b c live l t node)):=by
  obtain ⟨r,r1,r2,r3⟩:=ZoZ hs h1 node;have hlen:=Zs0 h live node (Zr b).length;rw[List.take_length] at hlen;have hto:=ZoE h hv hl node
  let f:Int->NSt->NSt:=λy st=>match (Zr b)[y.toNat]? with
    | some x=>Zl6 b c t x st
    | none=>st
  have hf:∀ y∈toL b live node,∃ (k:Nat) (x:Zm),y=(k:Int)/\(Zr b)[k]?=some x/\∀ st,f y st=Zl6 b c t x st:=λy hy=>by
    obtain ⟨k,x,hx,hyx⟩:=XU.1 hy;rw[Nat.zero_add] at hyx;unfold toF at hyx;split at hyx
    · split at hyx
      · have ey:=List.mem_singleton.1 hyx
        refine ⟨k,x,ey,hx,λst=>?_⟩;show (match (Zr b)[y.toNat]? with
          | some x=>Zl6 b c t x st
          | none=>st)=_
        rw[ey,Int.toNat_natCast,hx]
      · cases hyx
    · cases hyx
  have key:=Zll h hv hc ht (live:=live) (L:=toL b live node) (node:=node) (by unfold toL;omega) hf (ZfR l node);have efold:foldI (λ_ y st=>f y st) 0 (toL b live node) (ZfR l node)=Zcr b c live l t node:=by
    unfold toL Zcr;rw[ZhN f];refine Zhg _ _ _ λk x st hx=>?_;rw[Nat.zero_add];unfold toF;split
    · split
      · show (match (Zr b)[((k:Nat):Int).toNat]? with
          | some x=>Zl6 b c t x st
          | none=>st)=_
        rw[Int.toNat_natCast,hx]
      · rfl
    · rfl
  rw[efold] at key;unfold Y1;rw[r1,Bq,hto];cases e:r.2 with
  | true =>
    rw[if_pos rfl];rw[r2 e] at key;exact key
  | false =>
    rw[if_neg (by decide),Bq];rw[r3 e] at key;exact key
def cw (live:List Bool) (out:List Int) (v:Int) (k:Nat) (x:Zm):Nat:=if (live[k]?).getD false=true then (if Zm.To x=v then (if Zm.From x∈out then 0 else 1) else 0) else 0
def ZgD (live:List Bool) (L:List Zm) (out:List Int) (v:Int):Nat:=foldI (λk x s=>s+cw live out v k x) 0 L 0
def nxt (live:List Bool) (L:List Zm) (n:Nat) (out:List Int):Option Nat:=(List.range n).find? λv=>decide ((v:Int) ∉ out)&&decide (ZgD live L out (v:Int)=0)
def Zok (live:List Bool) (L:List Zm) (n:Nat):Nat->List Int->List Int×Bool
  | 0,out=>(out,true)
  | m+1,out=>match nxt live L n out with
    | none=>([],false)
    | some v=>Zok live L n m (out++[(v:Int)])
def ZiC (n:Nat) (p:Nat->Bool):List Bool:=(List.range n).map p
theorem Zdo {n:Nat} {p:Nat->Bool} {v:Nat} (h:v<n):(ZiC n p)[v]?=some (p v):=by
  unfold ZiC;rw[List.getElem?_map,List.getElem?_range h];rfl
theorem ZjR (n:Nat) (p:Nat->Bool):(ZiC n p).length=n:=by unfold ZiC;simp
theorem ZpQ {n:Nat} {p q:Nat->Bool} {i:Nat} {b:Bool} (hi:i<n) (h1:q i=b) (h2:∀ j,j≠i->q j=p j):List.set (ZiC n p) i b=ZiC n q:=by
  apply List.ext_getElem?;intro j;rw[List.getElem?_set];by_cases c:i=j
  · subst c
    rw[if_pos rfl,if_pos (by rw[ZjR];exact hi),Zdo hi,h1]
  · rw[if_neg c]
    by_cases hj:j<n
    · rw[Zdo hj,Zdo hj,h2 j (λe=>c e.symm)]
    · rw[List.getElem?_eq_none (by rw[ZjR];omega),List.getElem?_eq_none (by rw[ZjR];omega)]
theorem ZlR (n:Nat):List.replicate n false=ZiC n λ_=>false:=by
  apply List.ext_getElem?;intro j;by_cases hj:j<n
  · rw[Zdo hj,List.getElem?_replicate,if_pos hj]
  · rw[List.getElem?_eq_none (by rw[List.length_replicate];omega),List.getElem?_eq_none (by rw[ZjR];omega)]
structure Zq9 (live:List Bool) (L:List Zm) (n:Nat):Prop where
  few:L.length<=6000
  ll:live.length=L.length
  n0:n<=1000
  bd:∀ x∈L,(0<=Zm.From x/\Zm.From x<(n:Int))/\0<=Zm.To x/\Zm.To x<(n:Int)
theorem Zbg {live:List Bool} {L:List Zm} {out:List Int} {v:Int} {k:Nat} {x:Zm} (hx:L[k]?=some x):ZgD live (L.take (k+1)) out v=ZgD live (L.take k) out v+cw live out v k x:=by
  unfold ZgD;rw[Zeb hx]
theorem Zq2 {live:List Bool} {L:List Zm} {n:Nat} (h:Zq9 live L n) {out:List Int} {Q:(List Int×List Bool×Unit) ⊕ (List Int×Bool)}
    (hQ:Zp (λv=>YP (n:Int) out (ZiC n λv=>decide ((v:Int)∈out)) (ZiC n λv=>decide (ZgD live L out (v:Int)≠0)) v.1) ((0:Int),())=some (.inr Q)) :
    Zp (λv=>Ve (n:Int) L live out (ZiC n λv=>decide ((v:Int)∈out)) v.1 v.2.1) ((0:Int),List.replicate (Int.toNat (n:Int)) false,())=some Q:=by
  have hf:=h.few;have hll:=h.ll;refine Yv L.length (λk v=>v=((k:Int),ZiC n (λv=>decide (ZgD live (L.take k) out (v:Int)≠0)),())) _ ?_ ?_ ?_
  · rw[Int.toNat_natCast,ZlR]
    rfl
  · rintro k _ hkl rfl
    have hx:L[k]?=some (L[k]'(by omega)):=List.getElem?_eq_getElem _;have hlv:live[k]?=some (live[k]'(by omega)):=List.getElem?_eq_getElem _;generalize L[k]'(by omega)=x at hx;generalize live[k]'(by omega)=lv at hlv;obtain ⟨⟨f0,f1⟩,t0,t1⟩:=h.bd x (List.mem_of_getElem? hx);have hfrom:atI (ZiC n λv=>decide ((v:Int)∈out)) (Zm.From x)=some (decide (Zm.From x∈out)):=by
      refine Qn f0 ?_;rw[Zdo (by omega),show ((Zm.From x).toNat:Int)=Zm.From x by omega]
    have hto:∀ p:Nat->Bool,atI (ZiC n p) (Zm.To x)=some (p (Zm.To x).toNat):=λp=>Qn t0 (Zdo (by omega));refine .inl ⟨(((k+1:Nat):Int),ZiC n (λv=>decide (ZgD live (L.take (k+1)) out (v:Int)≠0)),()),?_,rfl⟩;simp only[Ve,show (k:Int)<(L.length:Int) from by omega,if_true,Zo,hx,hlv,Bq,hfrom,hto,Y8 (show k<=1048576 by omega)];have hsame:(∀ v:Nat,cw live out (v:Int) k x=0)->ZiC n (λv=>decide (ZgD live (L.take (k+1)) out (v:Int)≠0))=ZiC n (λv=>decide (ZgD live (L.take k) out (v:Int)≠0)):=λhz=>by
      unfold ZiC;refine List.map_congr_left λv _=>?_;rw[Zbg hx,hz,Nat.add_zero]
    by_cases q1:lv=true
    · rw[if_pos q1]
      by_cases q2:Zm.From x∈out
      · rw[if_pos (decide_eq_true q2),hsame (λv=>by unfold cw;rw[hlv,Option.getD_some,if_pos q1,if_pos q2];split<;>rfl)]
      · rw[if_neg (by rw[decide_eq_true_eq];exact q2)]
        rw[ZpQ (q:=λv=>decide (ZgD live (L.take (k+1)) out (v:Int)≠0)) (by omega) ?_ ?_]
        · rw[decide_eq_true_eq,Zbg hx]
          unfold cw;rw[hlv,Option.getD_some,if_pos q1,if_pos (by omega),if_neg q2];omega
        · intro j hj
          rw[Zbg hx];unfold cw;rw[hlv,Option.getD_some,if_pos q1,if_neg (by omega),Nat.add_zero]
    · rw[if_neg q1,hsame (λv=>by unfold cw;rw[hlv,Option.getD_some,if_neg q1])]
  · rintro _ rfl
    show Ve (n:Int) L live out (ZiC n λv=>decide ((v:Int)∈out)) (L.length:Int) (ZiC n λv=>decide (ZgD live (L.take L.length) out (v:Int)≠0))=_;unfold Ve;rw[if_neg (Int.lt_irrefl _),List.take_length];exact hQ
theorem ZsS {live:List Bool} {L:List Zm} {n:Nat} (h:Zq9 live L n) {out:List Int} (ho:out.length<=1000) :
    Zp (λv=>YP (n:Int) out (ZiC n λv=>decide ((v:Int)∈out)) (ZiC n λv=>decide (ZgD live L out (v:Int)≠0)) v.1) ((0:Int),()) =
      some (.inr (match nxt live L n out with
        | none=>.inr ([],false)
        | some v=>.inl (out++[(v:Int)],ZiC n (λu=>decide ((u:Int)∈out++[(v:Int)])),()))):=by
  have hn:=h.n0;have step:∀ k:Nat,k<n->(decide ((k:Int) ∉ out)&&decide (ZgD live L out (k:Int)=0))=false->YP (n:Int) out (ZiC n λv=>decide ((v:Int)∈out)) (ZiC n λv=>decide (ZgD live L out (v:Int)≠0)) (k:Int)=some (.inl (((k+1:Nat):Int),())):=λk hk hp=>by
    unfold YP;rw[if_pos (by omega),Zo,Zdo hk,Bq,Y8 (by omega)];by_cases q:(k:Int)∈out
    · rw[if_pos (decide_eq_true q)]
    · rw[if_neg (by rw[decide_eq_true_eq];exact q),Zo,Zdo hk,Bq]
      have hw:ZgD live L out (k:Int)≠0:=λz=>by
        rw[decide_eq_true q,decide_eq_true z] at hp;exact Bool.noConfusion hp
      rw[if_pos (decide_eq_true hw)]
  cases e:nxt live L n out with
  | none =>
    unfold nxt at e;rw[List.find?_range_eq_none] at e;refine Yv n (λk v=>v=((k:Int),())) _ rfl ?_ ?_
    · rintro k _ hk rfl
      exact .inl ⟨_,step k hk (by have:=e k hk;rw[Bool.not_eq_true'] at this;exact this),rfl⟩
    · rintro _ rfl
      show YP _ _ _ _ (n:Int)=_;unfold YP;rw[if_neg (Int.lt_irrefl _),if_pos rfl]
  | some v =>
    unfold nxt at e;rw[List.find?_range_eq_some] at e;obtain ⟨hp,hv,hlow⟩:=e;have hv:=List.mem_range.1 hv;rw[Bool.and_eq_true,decide_eq_true_eq,decide_eq_true_eq] at hp;refine Yv v (λk u=>u=((k:Int),())) _ rfl ?_ ?_
    · rintro k _ hk rfl
      exact .inl ⟨_,step k (by omega) (by have:=hlow k hk;rw[Bool.not_eq_true'] at this;exact this),rfl⟩
    · rintro _ rfl
      show YP _ _ _ _ (v:Int)=_;unfold YP;rw[if_pos (by omega),Zo,Zdo hv,Bq,if_neg (by rw[decide_eq_true_eq];exact hp.1),Zo,Zdo hv,Bq,if_neg (by rw[decide_eq_true_eq];exact λz=>z hp.2),if_neg (by omega),Zn (by simp only[List.length_cons,List.length_nil];omega),Int.toNat_natCast];rw[ZpQ (q:=λu=>decide ((u:Int)∈out++[(v:Int)])) hv (decide_eq_true (List.mem_append.2 (.inr (List.mem_singleton.2 rfl)))) (λj hj=>by
        rw[decide_eq_decide,List.mem_append,List.mem_singleton];constructor
        · rintro (z | z)
          · exact z
          · omega
        · exact .inl)]
theorem Zk0 {live:List Bool} {L:List Zm} {n:Nat} (h:Zq9 live L n):∀ (m:Nat) (out:List Int),out.length+m=n->
    Zp (λv=>Ql (n:Int) L live v.1 v.2.1) (out,ZiC n (λu=>decide ((u:Int)∈out)),())=some (Zok live L n m out)
  | 0,out,hm=>by
    refine YL ?_;show Ql (n:Int) L live out _=_;unfold Ql;rw[if_neg (by omega)];rfl
  | m+1,out,hm=>by
    have hn:=h.n0;have hw:=Zq2 h (ZsS h (out:=out) (by omega));have hs:Ql (n:Int) L live out (ZiC n (λu=>decide ((u:Int)∈out)))=some (match nxt live L n out with
        | none=>.inr ([],false)
        | some v=>.inl (out++[(v:Int)],ZiC n (λu=>decide ((u:Int)∈out++[(v:Int)])),())):=by
      unfold Ql;rw[if_pos (by omega)];exact hw
    unfold Zok;cases e:nxt live L n out with
    | none =>
      rw[e] at hs;exact YL hs
    | some v =>
      rw[e] at hs;exact (YM hs).trans (Zk0 h m (out++[(v:Int)]) (by rw[List.length_append];simp only[List.length_cons,List.length_nil];omega))
theorem ZmZ {live:List Bool} {L:List Zm} {n:Nat} (h:Zq9 live L n):Zd6 (n:Int) L live=some (Zok live L n n []):=by
  have hn:=h.n0;unfold Zd6;rw[Zn (by omega),Zn (by omega),Zn (by omega),Zn (by omega),Int.toNat_natCast,ZlR];have:=Zk0 h n [] (by simp);simpa using this
def Zhu (n:Nat) (p:Nat->Int):List Int:=(List.range n).map p
theorem Zdm {n:Nat} {p:Nat->Int} {v:Nat} (h:v<n):(Zhu n p)[v]?=some (p v):=by
  unfold Zhu;rw[List.getElem?_map,List.getElem?_range h];rfl
theorem Zdn (n:Nat) (p:Nat->Int):(Zhu n p).length=n:=by unfold Zhu;simp
theorem ZmH {n:Nat} {p q:Nat->Int} {i:Nat} {b:Int} (hi:i<n) (h1:q i=b) (h2:∀ j,j≠i->q j=p j):List.set (Zhu n p) i b=Zhu n q:=by
  apply List.ext_getElem?;intro j;rw[List.getElem?_set];by_cases c:i=j
  · subst c
    rw[if_pos rfl,if_pos (by rw[Zdn];exact hi),Zdm hi,h1]
  · rw[if_neg c]
    by_cases hj:j<n
    · rw[Zdm hj,Zdm hj,h2 j (λe=>c e.symm)]
    · rw[List.getElem?_eq_none (by rw[Zdn];omega),List.getElem?_eq_none (by rw[Zdn];omega)]
def Zli (live:List Bool) (node:Int) (k:Nat) (x:Zm):List Int:=if (live[k]?).getD false=true then (if Zm.From x=node then [(k:Int)] else []) else []
def Zno (b:Zc) (live:List Bool) (node:Int):List Int:=cat (Zli live node) 0 (Zr b)
theorem ZrW (live:List Bool) (node:Int) (k:Nat) (x:Zm):(Zli live node k x).length<=1:=by
  unfold Zli;split
  · split<;>simp
  · simp
theorem Znp {b:Zc} (h:XT b) (live:List Bool) (node:Int) (n:Nat):(cat (Zli live node) 0 ((Zr b).take n)).length<=6000:=by
  have h1:=V9 (f:=Zli live node) (c:=1) (l:=(Zr b).take n) (m:=0) (λk x _=>ZrW live node k x);have h2:=XH h;rw[List.length_take] at h1;omega
theorem Zmv {b:Zc} (h:XT b) {v:ZG} (hv:VOk b v) {live:List Bool} (hl:live.length=(Zr b).length) (node:Int):Zck (v,live,()) node=some (Zno b live node):=by
  have h6:=XH h;have el:ZG.links (Ya.view ((v,live,()):Ya))=Zr b:=hv.links;have ev:Ya.live ((v,live,()):Ya)=live:=rfl;unfold Zck Xc;have:=Xy (l:=Zr b) (ρ:=List Int) (Zli live node) [] (step:=λu=>Yi (v,live,()) (node,()) u.1 u.2.1) (good:=Zno b live node)
    (λk x hx hk=>by
      have hlv:live[k]?=some (live[k]'(by omega)):=List.getElem?_eq_getElem _;have hlen:=Znp h live node k;simp only[Yi,el,ev,show (k:Int)<((Zr b).length:Int) from by omega,if_true,Zo,hx,hlv,Bq,Zcl,List.nil_append,Y8 (show k<=1048576 by omega)];unfold Zli at *;rw[hlv];simp only[Option.getD_some];by_cases q1:live[k]'(by omega)=true
      · rw[if_pos q1,if_pos q1]
        by_cases q2:Zm.From x=node
        · rw[if_pos (decide_eq_true q2),if_pos q2,Zn (by simp only[List.length_cons,List.length_nil];omega)]
        · rw[if_neg (by rw[decide_eq_true_eq];exact q2),if_neg q2,List.append_nil]
      · rw[if_neg q1,if_neg q1,List.append_nil])
    (by simp only[Yi,el,Int.lt_irrefl,if_false,List.nil_append];rfl)
  rw[this];rfl
theorem Zqz {n:Nat} {p:Nat->Int} (hn:n<=1000):VE (Zhu n p) 0=some (match (List.range n).find? (λv=>decide (p v=0)) with
    | none=>-1
    | some v=>(v:Int)):=by
  unfold VE;cases e:(List.range n).find? (λv=>decide (p v=0)) with
  | none =>
    rw[List.find?_range_eq_none] at e;refine Yv n (λk v=>v=((k:Int),())) _ rfl ?_ ?_
    · rintro k _ hk rfl
      have hz:=e k hk;rw[Bool.not_eq_true',decide_eq_false_iff_not] at hz;simp only[Xd,Zdn,show (k:Int)<(n:Int) from by omega,if_true,Zo,Zdm hk,Bq,Y8 (show k<=1048576 by omega)];rw[if_neg (λz=>hz z.symm)];exact .inl ⟨_,rfl,rfl⟩
    · rintro _ rfl
      simp only[Xd,Zdn,Int.lt_irrefl,if_false]
  | some v =>
    rw[List.find?_range_eq_some] at e;obtain ⟨hp,hv,hlow⟩:=e;have hv:=List.mem_range.1 hv;rw[decide_eq_true_eq] at hp;refine Yv v (λk u=>u=((k:Int),())) _ rfl ?_ ?_
    · rintro k _ hk rfl
      have hz:=hlow k hk;rw[Bool.not_eq_true',decide_eq_false_iff_not] at hz;simp only[Xd,Zdn,show (k:Int)<(n:Int) from by omega,if_true,Zo,Zdm (show k<n by omega),Bq,Y8 (show k<=1048576 by omega)];rw[if_neg (λz=>hz z.symm)];exact .inl ⟨_,rfl,rfl⟩
    · rintro _ rfl
      simp only[Xd,Zdn,show (v:Int)<(n:Int) from by omega,if_true,Zo,Zdm hv,Bq];rw[if_pos hp.symm]
def Zpc (live:List Bool) (k:Nat) (x:Zm):List Int:=if (live[k]?).getD false=true then [(k:Int)] else []
theorem Zpd (live:List Bool) (k:Nat) (x:Zm):(Zpc live k x).length<=1:=by
  unfold Zpc;split<;>simp
theorem Zmk {b:Zc} (h:XT b) {v:ZG} (hv:VOk b v) {live:List Bool} (hl:live.length=(Zr b).length):Yx (v,live,()) ()=some (cat (Zpc live) 0 (Zr b)):=by
  have h6:=XH h;have el:ZG.links (Ya.view ((v,live,()):Ya))=Zr b:=hv.links;have ev:Ya.live ((v,live,()):Ya)=live:=rfl;unfold Yx;exact Xy (l:=Zr b) (ρ:=List Int) (Zpc live) [] (step:=λu=>Yf (v,live,()) u.1 u.2.1) (good:=cat (Zpc live) 0 (Zr b))
    (λk x hx hk=>by
      have hlv:live[k]?=some (live[k]'(by omega)):=List.getElem?_eq_getElem _;have hlen:=V9 (f:=Zpc live) (c:=1) (l:=(Zr b).take k) (m:=0) (λk x _=>Zpd live k x);rw[List.length_take] at hlen;simp only[Yf,el,ev,show (k:Int)<((Zr b).length:Int) from by omega,if_true,Zo,hx,hlv,Bq,ZbE,List.nil_append,Y8 (show k<=1048576 by omega)];unfold Zpc at *;rw[hlv];simp only[Option.getD_some];by_cases q1:live[k]'(by omega)=true
      · rw[if_pos q1,if_pos q1,Zn (by simp only[List.length_cons,List.length_nil];omega)]
      · rw[if_neg q1,if_neg q1,List.append_nil])
    (by simp only[Yf,el,Int.lt_irrefl,if_false,List.nil_append])
def Zra (L:List Zm) (c:Int) (y:Int) (l:List Int):List Int:=match L[y.toNat]? with
  | some x=>List.set l (Zm.To x).toNat ((l[(Zm.To x).toNat]?).getD 0+c)
  | none=>l
theorem Zmz {L:List Zm} {c:Int} {k:Nat} {x:Zm} (hx:L[k]?=some x) (l:List Int):Zra L c (k:Int) l=List.set l (Zm.To x).toNat ((l[(Zm.To x).toNat]?).getD 0+c):=by
  unfold Zra;rw[Int.toNat_natCast,hx]
theorem ZlL {live:List Bool} {L:List Zm} {n:Nat} (h:Zq9 live L n):∀ k,k<=L.length->foldI (λk x l=>foldI (λ_ y l=>Zra L 1 y l) 0 (Zpc live k x) l) 0 (L.take k) (List.replicate n 0)=Zhu n λv=>(ZgD live (L.take k) [] (v:Int):Int)
  | 0,_=>by
    rw[List.take_zero];apply List.ext_getElem?;intro j;by_cases hj:j<n
    · rw[Zdm hj]
      simp only[foldI];rw[List.getElem?_replicate,if_pos hj];rfl
    · rw[List.getElem?_eq_none (by simp only[foldI];rw[List.length_replicate];omega),List.getElem?_eq_none (by rw[Zdn];omega)]
  | k+1,hk=>by
    have hll:=h.ll;have hx:L[k]?=some (L[k]'(by omega)):=List.getElem?_eq_getElem _;have hlv:live[k]?=some (live[k]'(by omega)):=List.getElem?_eq_getElem _;generalize L[k]'(by omega)=x at hx;generalize live[k]'(by omega)=lv at hlv;obtain ⟨_,t0,t1⟩:=h.bd x (List.mem_of_getElem? hx);rw[Zeb hx,ZlL h k (by omega)];unfold Zpc;rw[hlv,Option.getD_some];by_cases q:lv=true
    · rw[if_pos q]
      show Zra L 1 (k:Int) _=_;rw[Zmz hx,Zdm (by omega),Option.getD_some];refine ZmH (by omega) ?_ (λj hj=>?_)
      · rw[Zbg hx]
        unfold cw;rw[hlv,Option.getD_some,if_pos q,if_pos (by omega),if_neg (by simp)];omega
      · rw[Zbg hx]
        unfold cw;rw[hlv,Option.getD_some,if_pos q,if_neg (by omega),Nat.add_zero]
    · rw[if_neg q]
      show Zhu n _=Zhu n _;unfold Zhu;refine List.map_congr_left λv _=>?_;rw[Zbg hx];unfold cw;rw[hlv,Option.getD_some,if_neg q,Nat.add_zero]
theorem Zqu {b:Zc} (h:XT b) {v:ZG} (hv:VOk b v) {live:List Bool} {n:Nat} (hB:Zq9 live (Zr b) n) {R:List Int×Bool}
    (hR:Zp (λu=>Yu (v,live,()) (Zhu n λu=>(ZgD live (Zr b) [] (u:Int):Int)) u.1 u.2.1 u.2.2.1) (([]:List Int),(0:Int),Zhu n (λu=>(ZgD live (Zr b) [] (u:Int):Int)),())=some (.inr R)) :
    Zp (λu=>XA (v,live,()) (cat (Zpc live) 0 (Zr b)) u.1 u.2.1) ((0:Int),List.replicate n (0:Int),())=some R:=by
  have h6:=hB.few;have el:ZG.links (Ya.view ((v,live,()):Ya))=Zr b:=hv.links;have hC:=V9 (f:=Zpc live) (c:=1) (l:=Zr b) (m:=0) (λk x _=>Zpd live k x);refine Zec (l:=cat (Zpc live) 0 (Zr b)) (by unfold Len;omega) (λs i=>(i,s,())) (f:=λ_ y s=>Zra (Zr b) 1 y s) (s0:=List.replicate n (0:Int)) (λk s=>s.length=n/\∀ z∈s,0<=z/\z<=(k:Int)) ⟨List.length_replicate,λz hz=>by have:=List.eq_of_mem_replicate hz;omega⟩ (λm y s hy hI _=>?_) (λs hI he=>?_)
  · obtain ⟨hsl,hsb⟩:=hI
    have hm:=(List.getElem?_eq_some_iff.1 hy).1;obtain ⟨k,x,hx,hyx⟩:=XU.1 (List.mem_of_getElem? hy);rw[Nat.zero_add] at hyx;have ey:y=(k:Int):=by
      unfold Zpc at hyx;split at hyx
      · exact List.mem_singleton.1 hyx
      · cases hyx
    subst ey;obtain ⟨_,t0,t1⟩:=hB.bd x (List.mem_of_getElem? hx);have hz:s[(Zm.To x).toNat]?=some (s[(Zm.To x).toNat]'(by omega)):=List.getElem?_eq_getElem _;have hzb:=hsb _ (List.mem_of_getElem? hz);generalize s[(Zm.To x).toNat]'(by omega)=z at hz hzb;have ei:Zra (Zr b) 1 (k:Int) s=List.set s (Zm.To x).toNat (z+1):=by rw[Zmz hx,hz];rfl
    refine ⟨?_,?_⟩
    · show XA (v,live,()) _ (m:Int) s=_
      unfold XA;rw[if_pos (by omega),Zo,hy,Bq,el,Zo,hx,Bq,Qn t0 hz,Bq,YI (n:=z+1) (by omega) (by omega),ei]
    · rw[ei]
      refine ⟨by rw[List.length_set];exact hsl,λw hw=>?_⟩;rcases List.mem_or_eq_of_mem_set hw with q | q
      · have:=hsb w q;omega
      · omega
  · rw[ZhN (λy s=>Zra (Zr b) 1 y s)] at he
    have hcf:=ZlL hB (Zr b).length (Nat.le_refl _);rw[List.take_length] at hcf;rw[hcf] at he;subst he;show XA (v,live,()) _ ((cat (Zpc live) 0 (Zr b)).length:Int) _=_;unfold XA;rw[if_neg (Int.lt_irrefl _)];exact hR
def dw (live:List Bool) (w v:Int) (k:Nat) (x:Zm):Nat:=if (live[k]?).getD false=true then (if Zm.To x=v then (if Zm.From x=w then 1 else 0) else 0) else 0
def Zvv (live:List Bool) (L:List Zm) (w v:Int):Nat:=foldI (λk x s=>s+dw live w v k x) 0 L 0
theorem ZhD {live:List Bool} {L:List Zm} {w v:Int} {k:Nat} {x:Zm} (hx:L[k]?=some x):Zvv live (L.take (k+1)) w v=Zvv live (L.take k) w v+dw live w v k x:=by
  unfold Zvv;rw[Zeb hx]
theorem Ztx (live:List Bool) {out:List Int} {w:Int} (hw:w ∉ out) (v:Int) (k:Nat) (x:Zm):cw live out v k x=cw live (out++[w]) v k x+dw live w v k x:=by
  unfold cw dw;split
  · split
    · by_cases q:Zm.From x∈out
      · rw[if_pos q,if_pos (List.mem_append.2 (.inl q)),if_neg (λe=>hw (by rw[<-e];exact q))]
      · rw[if_neg q]
        by_cases e:Zm.From x=w
        · rw[if_pos (List.mem_append.2 (.inr (List.mem_singleton.2 e))),if_pos e]
        · rw[if_neg (λz=>by rcases List.mem_append.1 z with z | z;exact q z;exact e (List.mem_singleton.1 z)),if_neg e]
    · rfl
  · rfl
theorem Zih (live:List Bool) (L:List Zm) {out:List Int} {w:Int} (hw:w ∉ out) (v:Int):∀ k,k<=L.length->ZgD live (L.take k) out v=ZgD live (L.take k) (out++[w]) v+Zvv live (L.take k) w v
  | 0,_=>rfl
  | k+1,hk=>by
    have hx:L[k]?=some (L[k]'(by omega)):=List.getElem?_eq_getElem _;rw[Zbg hx,Zbg hx,ZhD hx,Zih live L hw v k (by omega),Ztx live hw v k];omega
theorem Zvy (live:List Bool) (L:List Zm) (out:List Int) (v:Int):∀ (m k:Nat) (x:Zm),m<=L.length->k<m->L[k]?=some x->cw live out v k x<=ZgD live (L.take m) out v
  | 0,k,x,_,hk,_=>by omega
  | m+1,k,x,hm,hk,hx=>by
    have hy:L[m]?=some (L[m]'(by omega)):=List.getElem?_eq_getElem _;rw[Zbg hy];by_cases e:k=m
    · subst e
      rw[hx] at hy;injection hy with hy
      rw[<-hy];omega
    · have:=Zvy live L out v m k x (by omega) (by omega) hx
      omega
noncomputable def opn (live:List Bool) (L:List Zm) (out:List Int) (u:Nat):Int:=if (u:Int)∈out then -1 else (ZgD live L out (u:Int):Int)
def Clo (live:List Bool) (L:List Zm) (out:List Int):Prop:=∀ u∈out,ZgD live L out u=0
theorem Zpl {live:List Bool} {L:List Zm} {n:Nat} (h:Zq9 live L n) {out:List Int} {w:Nat} (hw:w<n) (hn:(w:Int) ∉ out) (hc:ZgD live L out (w:Int)=0) (hcl:Clo live L out):∀ k,k<=L.length->
    foldI (λk x l=>foldI (λ_ y l=>Zra L (-1) y l) 0 (Zli live (w:Int) k x) l) 0 (L.take k) (List.set (Zhu n (opn live L out)) w (-1))=Zhu n λu=>if (u:Int)∈out++[(w:Int)] then -1 else (ZgD live L out (u:Int):Int)-(Zvv live (L.take k) (w:Int) (u:Int):Int)
  | 0,_=>by
    rw[List.take_zero];simp only[foldI];refine ZmH hw ?_ (λj hj=>?_)
    · rw[if_pos (List.mem_append.2 (.inr (List.mem_singleton.2 rfl)))]
    · unfold opn
      by_cases q:(j:Int)∈out
      · rw[if_pos q,if_pos (List.mem_append.2 (.inl q))]
      · rw[if_neg q,if_neg (λz=>by
          rcases List.mem_append.1 z with z | z
          · exact q z
          · have:=List.mem_singleton.1 z;omega)]
        show _-((0:Nat):Int)=_;omega
  | k+1,hk=>by
    have hll:=h.ll;have hx:L[k]?=some (L[k]'(by omega)):=List.getElem?_eq_getElem _;have hlv:live[k]?=some (live[k]'(by omega)):=List.getElem?_eq_getElem _;generalize L[k]'(by omega)=x at hx;generalize live[k]'(by omega)=lv at hlv;obtain ⟨_,t0,t1⟩:=h.bd x (List.mem_of_getElem? hx);rw[Zeb hx,Zpl h hw hn hc hcl k (by omega)];have hle:=Zvy live L out (Zm.To x) L.length k x (Nat.le_refl _) (by omega) hx;rw[List.take_length] at hle;have hsame:(∀ u:Int,dw live (w:Int) u k x=0)->Zhu n (λu=>if (u:Int)∈out++[(w:Int)] then -1 else (ZgD live L out (u:Int):Int)-(Zvv live (L.take k) (w:Int) (u:Int):Int))=Zhu n λu=>if (u:Int)∈out++[(w:Int)] then -1 else (ZgD live L out (u:Int):Int)-(Zvv live (L.take (k+1)) (w:Int) (u:Int):Int):=λhz=>by
      unfold Zhu;refine List.map_congr_left λu _=>?_;rw[ZhD hx,hz,Nat.add_zero]
    unfold Zli;rw[hlv,Option.getD_some];by_cases q:lv=true
    · rw[if_pos q]
      by_cases qf:Zm.From x=(w:Int)
      · rw[if_pos qf]
        have hcw:cw live out (Zm.To x) k x=1:=by
          unfold cw;rw[hlv,Option.getD_some,if_pos q,if_pos rfl,if_neg (by rw[qf];exact hn)]
        have hto:Zm.To x ∉ out++[(w:Int)]:=λz=>by
          rcases List.mem_append.1 z with z | z
          · have:=hcl _ z;omega
          · rw[List.mem_singleton.1 z,hc] at hle
            rw[List.mem_singleton.1 z] at hcw;omega
        show Zra L (-1) (k:Int) _=_;rw[Zmz hx,Zdm (by omega),Option.getD_some,show (((Zm.To x).toNat:Nat):Int)=Zm.To x by omega,if_neg hto];refine ZmH (by omega) ?_ (λj hj=>?_)
        · rw[show (((Zm.To x).toNat:Nat):Int)=Zm.To x by omega,if_neg hto,ZhD hx]
          unfold dw;rw[hlv,Option.getD_some,if_pos q,if_pos rfl,if_pos qf];omega
        · have hd:dw live (w:Int) (j:Int) k x=0:=by
            unfold dw;rw[hlv,Option.getD_some,if_pos q,if_neg (by omega)]
          rw[ZhD hx,hd,Nat.add_zero]
      · rw[if_neg qf]
        exact hsame λu=>by unfold dw;rw[hlv,Option.getD_some,if_pos q,if_neg qf];split<;>rfl
    · rw[if_neg q]
      exact hsame λu=>by unfold dw;rw[hlv,Option.getD_some,if_neg q]
theorem Zrx (live:List Bool) (L:List Zm) (out:List Int) (v:Int):∀ k,k<=L.length->ZgD live (L.take k) out v<=k
  | 0,_=>Nat.le_refl _
  | k+1,hk=>by
    have hx:L[k]?=some (L[k]'(by omega)):=List.getElem?_eq_getElem _;rw[Zbg hx];have:=Zrx live L out v k (by omega);have h1:cw live out v k (L[k]'(by omega))<=1:=by
      unfold cw;split
      · split
        · split<;>omega
        · omega
      · omega
    omega
theorem ZwW {live:List Bool} {L:List Zm} {n:Nat} (h:Zq9 live L n) (out:List Int) (u:Nat):-1<=opn live L out u/\opn live L out u<=6000:=by
  have h1:=Zrx live L out (u:Int) L.length (Nat.le_refl _);have h2:=h.few;rw[List.take_length] at h1;unfold opn;split<;>omega
theorem Ztu {live:List Bool} {L:List Zm} {out:List Int} {w:Int} (hn:w ∉ out) (hc:ZgD live L out w=0) (hcl:Clo live L out):Clo live L (out++[w]):=by
  intro u hu;have hs:=Zih live L hn u L.length (Nat.le_refl _);rw[List.take_length] at hs;rcases List.mem_append.1 hu with q | q
  · have:=hcl u q
    omega
  · rw[List.mem_singleton.1 q] at hs ⊢
    omega
theorem ZrX {b:Zc} {live:List Bool} {w y:Int} (hy:y∈Zno b live w):∃ (k:Nat) (x:Zm),y=(k:Int)/\(Zr b)[k]?=some x/\Zm.From x=w:=by
  obtain ⟨k,x,hx,hyx⟩:=XU.1 hy;rw[Nat.zero_add] at hyx;unfold Zli at hyx;split at hyx
  · split at hyx
    · rename_i q
      exact ⟨k,x,List.mem_singleton.1 hyx,hx,q⟩
    · cases hyx
  · cases hyx
theorem Ztz {b:Zc} (h:XT b) {v:ZG} (hv:VOk b v) {live:List Bool} {n:Nat} (hB:Zq9 live (Zr b) n) {out:List Int} {w:Nat} (hw:w<n) (hn:(w:Int) ∉ out) (hc:ZgD live (Zr b) out (w:Int)=0) (hcl:Clo live (Zr b) out) (i:Int) :
    Zp (λu=>Xz (v,live,()) out i (w:Int) (Zno b live (w:Int)) u.1 u.2.1) ((0:Int),List.set (Zhu n (opn live (Zr b) out)) w (-1:Int),()) =
      some (.inl (out++[(w:Int)],Wq (i+1),Zhu n (opn live (Zr b) (out++[(w:Int)])),())):=by
  have h6:=hB.few;have el:ZG.links (Ya.view ((v,live,()):Ya))=Zr b:=hv.links;have hlen:(Zno b live (w:Int)).length<=6000:=by
    have:=Znp h live (w:Int) (Zr b).length;rw[List.take_length] at this;exact this
  refine Zec (l:=Zno b live (w:Int)) (by unfold Len;omega) (λs i=>(i,s,())) (f:=λ_ y s=>Zra (Zr b) (-1) y s) (s0:=List.set (Zhu n (opn live (Zr b) out)) w (-1:Int)) (λk s=>s.length=n/\∀ z∈s,-1-(k:Int)<=z/\z<=6000) ⟨by rw[List.length_set,Zdn],λz hz=>?_⟩ (λm y s hy hI _=>?_) (λs hI he=>?_)
  · rcases List.mem_or_eq_of_mem_set hz with q | q
    · unfold Zhu at q
      obtain ⟨u,_,rfl⟩:=List.mem_map.1 q;have:=ZwW hB out u;omega
    · omega
  · obtain ⟨hsl,hsb⟩:=hI
    have hm:=(List.getElem?_eq_some_iff.1 hy).1;obtain ⟨k,x,rfl,hx,_⟩:=ZrX (List.mem_of_getElem? hy);obtain ⟨_,t0,t1⟩:=hB.bd x (List.mem_of_getElem? hx);have hz:s[(Zm.To x).toNat]?=some (s[(Zm.To x).toNat]'(by omega)):=List.getElem?_eq_getElem _;have hzb:=hsb _ (List.mem_of_getElem? hz);generalize s[(Zm.To x).toNat]'(by omega)=z at hz hzb;have ei:Zra (Zr b) (-1) (k:Int) s=List.set s (Zm.To x).toNat (z-1):=by rw[Zmz hx,hz];rfl
    refine ⟨?_,?_⟩
    · show Xz (v,live,()) out i (w:Int) _ (m:Int) s=_
      unfold Xz;rw[if_pos (by omega),Zo,hy,Bq,el,Zo,hx,Bq,Qn t0 hz,Bq,YI (n:=z-1) (by omega) (by omega),ei]
    · rw[ei]
      refine ⟨by rw[List.length_set];exact hsl,λz' hz'=>?_⟩;rcases List.mem_or_eq_of_mem_set hz' with q | q
      · have:=hsb z' q;omega
      · omega
  · have hd:=Zpl hB hw hn hc hcl (Zr b).length (Nat.le_refl _)
    unfold Zno at he;rw[ZhN (λy s=>Zra (Zr b) (-1) y s)] at he;rw[List.take_length] at hd;rw[hd] at he;subst he;show Xz (v,live,()) out i (w:Int) _ ((Zno b live (w:Int)).length:Int) _=_;unfold Xz;rw[if_neg (Int.lt_irrefl _)];congr 6;unfold Zhu;refine List.map_congr_left λu _=>?_;have hs:=Zih live (Zr b) hn (u:Int) (Zr b).length (Nat.le_refl _);rw[List.take_length] at hs;unfold opn;split
    · rfl
    · omega
theorem ZwV (live:List Bool) (L:List Zm) (n:Nat) (out:List Int):(List.range n).find? (λv=>decide (opn live L out v=0))=nxt live L n out:=by
  unfold nxt;congr 1;funext v;unfold opn;by_cases q:(v:Int)∈out
  · rw[if_pos q,decide_eq_false (by omega),decide_eq_false (λz=>z q),Bool.false_and]
  · rw[if_neg q,decide_eq_true q,Bool.true_and,decide_eq_decide]
    omega
theorem Zkv {b:Zc} (h:XT b) {v:ZG} (hv:VOk b v) {live:List Bool} {n:Nat} (hB:Zq9 live (Zr b) n) {l0:List Int} (hl0:l0.length=n):∀ (m:Nat) (out:List Int),out.length+m=n->Clo live (Zr b) out->
    Zp (λu=>Yu (v,live,()) l0 u.1 u.2.1 u.2.2.1) (out,(out.length:Int),Zhu n (opn live (Zr b) out),())=some (.inr (Zok live (Zr b) n m out))
  | 0,out,hm,hcl=>by
    refine YL ?_;show Yu (v,live,()) l0 out (out.length:Int) _=_;unfold Yu;rw[if_neg (by omega)];rfl
  | m+1,out,hm,hcl=>by
    have hn:=hB.n0;have hi:=Zqz (p:=opn live (Zr b) out) hB.n0;rw[ZwV] at hi;unfold Zok;cases e:nxt live (Zr b) n out with
    | none =>
      rw[e] at hi;refine YL ?_;show Yu (v,live,()) l0 out (out.length:Int) _=_;unfold Yu;rw[if_pos (by omega),hi];rfl
    | some w =>
      rw[e] at hi;have e':=e;unfold nxt at e';rw[List.find?_range_eq_some] at e';obtain ⟨hp,hw,_⟩:=e';have hw:=List.mem_range.1 hw;rw[Bool.and_eq_true,decide_eq_true_eq,decide_eq_true_eq] at hp;have hstep:Yu (v,live,()) l0 out (out.length:Int) (Zhu n (opn live (Zr b) out))=some (.inl (out++[(w:Int)],((out++[(w:Int)]).length:Int),Zhu n (opn live (Zr b) (out++[(w:Int)])),())):=by
        unfold Yu;rw[if_pos (by omega),hi,Bq];show (if (w:Int)<0 then _ else _)=_;rw[if_neg (by omega),Zo,Zdm hw,Bq,Zn (by simp only[List.length_cons,List.length_nil];omega),Zmv h hv hB.ll,Bq,Int.toNat_natCast,Ztz h hv hB hw hp.1 hp.2 hcl,Y8 (by omega)];rw[List.length_append];rfl
      exact (YM hstep).trans (Zkv h hv hB hl0 m (out++[(w:Int)]) (by rw[List.length_append];simp only[List.length_cons,List.length_nil];omega) (Ztu hp.1 hp.2 hcl))
theorem Zmy {b:Zc} (h:XT b) {v:ZG} (hv:VOk b v) {live:List Bool} {n:Nat} (hB:Zq9 live (Zr b) n) (hn:YA v=some (n:Int)):Vo (v,live,())=some (Zok live (Zr b) n n []):=by
  have h1:=hB.n0;unfold Vo;show (YA v).bind _=_;rw[hn,Bq,Zn (by omega),Zn (by omega),Zn (by omega),Zn (by omega),Zmk h hv hB.ll,Bq,Int.toNat_natCast];refine Zqu h hv hB ?_;have:=Zkv h hv hB (l0:=Zhu n λu=>(ZgD live (Zr b) [] (u:Int):Int)) (Zdn _ _) n [] (by simp) (λu hu=>by cases hu);have e:Zhu n (opn live (Zr b) [])=Zhu n λu=>(ZgD live (Zr b) [] (u:Int):Int):=by
    unfold Zhu;refine List.map_congr_left λu _=>?_;unfold opn;rw[if_neg (by simp)]
  rw[e] at this;exact this
abbrev XF (b:Zc):Nat:=2*(places (Zc.Design b)).length
abbrev Jo (b:Zc) (br:List Int):List Bool:=ZdA (Zr b).length br
def Zay (b:Zc) (br:List Int):List Int×Bool:=Zok (Jo b br) (Zr b) (XF b) (XF b) []
theorem nN (b:Zc):XF b=2*(places (Zc.Design b)).length:=rfl
theorem ZeL {b:Zc} (h:XT b):XF b<=156:=by
  have:=YK h.ok.1.few;have:=nN b;omega
theorem ZzX {b:Zc} (h:XT b) (br:List Int):Zq9 (Jo b br) (Zr b) (XF b) where
  few:=XH h
  ll:=Zfa _ _
  n0:=by have:=ZeL h;omega
  bd:=λx hx=>by
    have:=ZdW h hx;have:=nN b;omega
theorem ZmL {b:Zc} (h:XT b) {v:ZG} (hv:VOk b v):YA v=some (XF b:Int):=by
  have:=ZeL h;have e:=nN b;unfold YA;rw[show Y3 (ZG.places v)=some ((ZG.places v).length:Int) from rfl,Bq,hv.places,YI (by omega) (by omega)];congr 1
theorem Zkz {b:Zc} (h:XT b) {v:ZG} (hv:VOk b v) {br:List Int} (hbr:br.length<=1048576):VA v br=some (tr (Zj0 ((Zr b).length:Int) br)):=by
  have hLs:=XH h;unfold VA;rw[show Zat (ZG.links v)=some ((ZG.links v).length:Int) from rfl,Bq,hv.links,YI (by omega) (by omega)];exact ZoH br _ hbr
theorem ZiB {b:Zc} (h:XT b) {br:List Int} (hbr:br.length<=1048576):ZdF b br=some (sel (Zj0 ((Zr b).length:Int) br) 0 2):=by
  have hLs:=XH h;unfold ZdF;rw[Va b h.sm,Bq,if_pos (ZU h.ok),Vq h,Bq,ZiQ br _ hbr (by omega),Bq];by_cases q:Zj0 ((Zr b).length:Int) br
  · rw[if_pos (ZU q),XV q]
  · rw[if_neg (λz=>q ((YH _).1 z)),Xp q]
theorem Zdz {b:Zc} (h:XT b):Y6 b=some (XF b:Int):=by
  rw[ZjM h.ok.1.few];congr 1
theorem Zs1 {b:Zc} (h:XT b) {br:List Int} (hbr:br.length<=1048576) (hR:Zj0 ((Zr b).length:Int) br):VH b br=some (if (Zay b br).2=true then ((Zay b br).1,0) else ([],7)):=by
  have hLs:=XH h;unfold VH;rw[ZiB h hbr,Bq,XV hR,if_pos rfl,Vq h,Bq,Zdz h,Bq,ZcQ _ _ hLs hbr,Bq,ZmZ (ZzX h br),Bq];show (if (Zay b br).2=true then _ else _)=_;split<;>rfl
theorem Zp6 {b:Zc} (h:XT b) {v:ZG} (hv:VOk b v) (br:List Int):Vo (v,Jo b br,())=some (Zay b br) :=
  Zmy h hv (ZzX h br) (ZmL h hv)
theorem ZlP {b:Zc} (h:XT b) {v:ZG} (hv:VOk b v) {br:List Int} (hbr:br.length<=1048576) (hR:Zj0 ((Zr b).length:Int) br):QY v br=some (v,Jo b br,()):=by
  have hLs:=XH h;have:=Zqy v br (by rw[hv.links];exact hLs) (by rw[hv.links];exact hR.1) hbr;rw[hv.links] at this;exact this
theorem Zz6 {b:Zc} {t:Ze} (ht:Zlc (2*((places (Zc.Design b)).length:Int)) t):Zf9 (XF b) t:=by
  obtain ⟨h1,h2,h3,h4⟩:=ht;have e0:=nN b;refine ⟨by omega,by omega,by omega,λs hs=>?_⟩;obtain ⟨k,hk⟩:=List.mem_iff_getElem?.1 hs;have hl:=(List.getElem?_eq_some_iff.1 hk).1;obtain ⟨a,s',_,e,_,e2,_⟩:=h4 k _ (List.getElem?_eq_getElem (show k<(Ze.Reached t).length by omega));rw[hk] at e;injection e with e
  subst e;obtain ⟨z1,z2,z3⟩:=e2;exact ⟨⟨by omega,by omega⟩,by omega,by omega⟩
theorem ZsU {n:Int} {l:List Zh} (h:ZdQ l (Zbt n l)) {i:Nat} {x:Zh} (hx:l[i]?=some x):∀ (m:Nat) (y:Zh),l[i+m+1]?=some y->Zh.Node x<Zh.Node y
  | 0,y,hy=>(h (i+1) y hy).2.1 x (by omega) hx
  | m+1,y,hy=>by
    have hl:=(List.getElem?_eq_some_iff.1 hy).1;have hz:l[i+m+1]?=some (l[i+m+1]'(by omega)):=List.getElem?_eq_getElem _;have h1:=ZsU h hx m _ hz;have h2:=(h (i+m+1+1) y hy).2.1 _ (by omega) hz;omega
theorem Zu0 {n:Int} {l:List Zh} (h:ZdQ l (Zbt n l)):Zpb l:=by
  intro i j x y hx hy he;rcases Nat.lt_trichotomy i j with q | q | q
  · have:=ZsU h hx (j-i-1) y (by rw[show i+(j-i-1)+1=j by omega];exact hy)
    omega
  · exact q
  · have:=ZsU h hy (i-j-1) x (by rw[show j+(i-j-1)+1=i by omega];exact hx)
    omega
structure Zie (b:Zc) (c:Zt) (br:List Int) (l:List Zh):Prop where
  blk:XT b
  cor:Vs c
  ris:Zj0 ((Zr b).length:Int) br
  src:ZdQ l (Zbt (2*((places (Zc.Design b)).length:Int)) l)
  ord:(Zay b br).2=true
structure Pre (b:Zc) (c:Zt) (br:List Int) (l:List Zh):Prop where
  blk:XT b
  cor:Vs c
  ris:Zj0 ((Zr b).length:Int) br
  src:ZdQ l (Zbt (2*((places (Zc.Design b)).length:Int)) l)
theorem Zie.pre {b:Zc} {c:Zt} {br:List Int} {l:List Zh} (h:Zie b c br l):Pre b c br l:=⟨h.blk,h.cor,h.ris,h.src⟩
theorem Zwj (b:Zc) (c:Zt) (br:List Int) (l:List Zh) (t:Ze) (hb:sm YC b) (hc:sm Xf c) (hbr:br.length<=1048576) (hl:l.length<=1048576) :
    (∃ code:Int,code≠0/\XE b c br l (some t)=some (none,[],code)/\ZdG b c br l t=some code/\(code=7/\Pre b c br l/\Zlc (2*((places (Zc.Design b)).length:Int)) t/\(Zay b br).2≠true\/¬(Pre b c br l/\Zlc (2*((places (Zc.Design b)).length:Int)) t)))\/
    (∃ v,Zie b c br l/\Zlc (2*((places (Zc.Design b)).length:Int)) t/\VOk b v/\XE b c br l (some t)=some (some (v,Jo b br,()),(Zay b br).1,0)/\ZdG b c br l t=some 0):=by
  unfold XE ZdG;rw[Va b hb,Zel b hb,Bq,Bq];by_cases hB:Zga b;rotate_left
  · rw[if_neg (λq=>hB ((YH _).1 q)),if_neg (λq=>hB ((YH _).1 q))]
    exact .inl ⟨1,by decide,rfl,rfl,.inr λq=>hB q.1.blk.ok⟩
  have h:XT b:=⟨hB,hb⟩;rw[if_pos (ZU hB),if_pos (ZU hB),ZdN c hc,Zf0 c,Bq,Bq];by_cases hC:Vs c;rotate_left
  · rw[if_neg (λq=>hC ((YH _).1 q)),if_neg (λq=>hC ((YH _).1 q))]
    exact .inl ⟨1,by decide,rfl,rfl,.inr λq=>hC q.1.cor⟩
  obtain ⟨v,hv1,hv⟩:=Zs9 h;have hn:=ZeL h;have e0:=nN b;rw[if_pos (ZU hC),if_pos (ZU hC),hv1,Bq,if_neg (by simp),Bq,ZjD h v hv.places t,Zdz h,Bq,Bq,ZiR (by omega) (by omega) t,Bq,show ((XF b:Nat):Int)=2*((places (Zc.Design b)).length:Int) by omega];by_cases hT:Zlc (2*((places (Zc.Design b)).length:Int)) t;rotate_left
  · rw[if_neg (λq=>hT ((YH _).1 q)),if_neg (λq=>hT ((YH _).1 q))]
    exact .inl ⟨1,by decide,rfl,rfl,.inr λq=>hT q.2⟩
  rw[if_pos (ZU hT),if_pos (ZU hT)];unfold ZaI;rw[Va b hb,Bq,if_pos (ZU hB),ZdN c hc,Bq,if_pos (ZU hC),ZiB h hbr,Zkz h hv hbr,Bq,Bq];by_cases hR:Zj0 ((Zr b).length:Int) br;rotate_left
  · rw[if_neg (λq=>hR ((YH _).1 q)),Xp hR,if_neg (by decide)]
    exact .inl ⟨2,by decide,rfl,rfl,.inr λq=>hR q.1.ris⟩
  rw[if_pos (ZU hR),XV hR,if_pos rfl,ZeH h v hv.places l hl,ZeV h l hl,Bq,Bq];by_cases hS:ZdQ l (Zbt (2*((places (Zc.Design b)).length:Int)) l);rotate_left
  · rw[if_neg (λq=>hS ((YH _).1 q)),if_neg (λq=>hS ((YH _).1 q))]
    exact .inl ⟨2,by decide,rfl,rfl,.inr λq=>hS q.1.src⟩
  rw[if_pos (ZU hS),if_pos (ZU hS),ZlP h hv hbr hR,Bq,Zp6 h hv br,Zs1 h hbr hR,Bq,Bq];by_cases hO:(Zay b br).2=true;rotate_left
  · rw[if_neg hO,if_neg hO]
    exact .inl ⟨7,by decide,rfl,rfl,.inl ⟨rfl,⟨h,hC,hR,hS⟩,hT,hO⟩⟩
  rw[if_pos hO,if_pos hO];exact .inr ⟨v,⟨h,hC,hR,hS,hO⟩,hT,hv,rfl,rfl⟩
def eqS (a b:Zv):Bool:=decide (Zv.Early a=Zv.Early b)&&decide (Zv.Late a=Zv.Late b)
theorem Zpv (a b:Zv):eqS a b=eqS b a:=by
  unfold eqS;congr 1<;>exact decide_eq_decide.2 ⟨Eq.symm,Eq.symm⟩
def Zts (x:Bool) (a s:Zv) (r:Bool×Zh):Bool:=if (x == r.1)=true then (if eqS a (Zh.ZA r.2)=true then !(eqS s (Zh.Xx r.2)) else true) else true
def Zg4 (t:Ze) (k:Nat) (r:Bool×Zh):Ze:=(List.set (Ze.Reached t) k r.1,List.set (Ze.ZA t) k (Zh.ZA r.2),List.set (Ze.Xx t) k (Zh.Xx r.2),())
theorem Zw5 {t:Ze} {k:Nat} {x:Bool} {a s:Zv} (hx:atI (Ze.Reached t) (k:Int)=some x) (ha:atI (Ze.ZA t) (k:Int)=some a) (hs:atI (Ze.Xx t) (k:Int)=some s) (node:Int) (st:NSt) :
    ZfQ t (k:Int) (ZnU node st).1 (ZnU node st).2=some (Zts x a s (ZnU node st),Zg4 t k (ZnU node st)):=by
  unfold ZfQ Zts Zg4;cases st with
  | none =>
    show (if false=true then _ else (atI (Ze.Reached t) (k:Int)).bind _)=_;rw[if_neg (by decide),hx,Bq,ha,Bq,hs,Bq,Bq,Int.toNat_natCast];show (if (x == false)=true then (if eqS a Jq=true then _ else _) else _)=some (if (x == false)=true then (if eqS a Jq=true then _ else _) else _,_);split
    · split
      · rfl
      · rfl
    · rfl
  | some q =>
    show (if true=true then (atI (Ze.Reached t) (k:Int)).bind _ else _)=_;rw[if_pos rfl,hx,Bq,ha,Bq,hs,Bq,Bq,Int.toNat_natCast];show (if (x == true)=true then (if eqS a q.1=true then _ else _) else _)=some (if (x == true)=true then (if eqS a q.1=true then _ else _) else _,_);split
    · split
      · rfl
      · rfl
    · rfl
theorem ZwX {t:Ze} {n:Nat} (ht:Zf9 n t) (hn:n<=1048576):ZfP t=some t:=by
  have h1:=ht.lr;have h2:=ht.la;have h3:=ht.ls;unfold ZfP;rw[Zn (by simp only[List.length_nil];omega),Zn (by simp only[List.length_nil];omega),Zn (by simp only[List.length_nil];omega),List.nil_append,List.nil_append,List.nil_append]
theorem Zk4 {t:Ze} {n k:Nat} (ht:Zf9 n t) (hk:k<n):∃ x a s,atI (Ze.Reached t) (k:Int)=some x/\atI (Ze.ZA t) (k:Int)=some a/\atI (Ze.Xx t) (k:Int)=some s:=by
  have h1:=ht.lr;have h2:=ht.la;have h3:=ht.ls;exact ⟨_,_,_,by rw[Zo];exact List.getElem?_eq_getElem (by omega),by rw[Zo];exact List.getElem?_eq_getElem (by omega),by rw[Zo];exact List.getElem?_eq_getElem (by omega)⟩
noncomputable def Zib (b:Zc) (c:Zt) (live:List Bool) (l:List Zh) (t:Ze) (k:Nat):Bool :=
  Zts ((atI (Ze.Reached t) (k:Int)).getD false) ((atI (Ze.ZA t) (k:Int)).getD Jq) ((atI (Ze.Xx t) (k:Int)).getD Jq) (ZnU (k:Int) (Zcr b c live l t (k:Int)))
noncomputable def ZcZ (b:Zc) (c:Zt) (live:List Bool) (l:List Zh) (t:Ze) (n:Nat):List Int:=((List.range n).filter (Zib b c live l t)).map λ(k:Nat)=>(k:Int)
theorem Zk8 (b:Zc) (c:Zt) (live:List Bool) (l:List Zh) (t:Ze) (n:Nat):ZcZ b c live l t (n+1)=ZcZ b c live l t n++(if Zib b c live l t n=true then [(n:Int)] else []):=by
  unfold ZcZ;rw[List.range_succ,List.filter_append,List.map_append];congr 1;by_cases q:Zib b c live l t n=true
  · rw[if_pos q,List.filter_cons_of_pos q];rfl
  · rw[if_neg q,List.filter_cons_of_neg q];rfl
theorem ZiT (b:Zc) (c:Zt) (live:List Bool) (l:List Zh) (t:Ze) (n:Nat):(ZcZ b c live l t n).length<=n:=by
  unfold ZcZ;rw[List.length_map];have:=List.length_filter_le (Zib b c live l t) (List.range n);rw[List.length_range] at this;exact this
theorem Zo8 {b:Zc} {c:Zt} {br:List Int} {l:List Zh} {t:Ze} {v:ZG} (hA:Zie b c br l) (hT:Zf9 (XF b) t) (hv:VOk b v) (hl:l.length<=1048576) :
    Zp (λu=>XQ b c l t (Zr b) (Jo b br) u.1 u.2.1) (([]:List Int),(0:Int),())=some (ZcZ b c (Jo b br) l t (XF b),0)/\
    Zp (λu=>XL c l t (v,Jo b br,()) (XF b:Int) u.1 u.2.1) (([]:List Int),(0:Int),())=some (ZcZ b c (Jo b br) l t (XF b),0):=by
  have h:=hA.blk;have hn:=ZeL h;have hll:(Jo b br).length=(Zr b).length:=Zfa _ _;have hlen:Len l:=by unfold Len;omega
  constructor
  · refine Yv (XF b) (λk u=>u=(ZcZ b c (Jo b br) l t k,(k:Int),())) _ rfl ?_ ?_
    · rintro k _ hk rfl
      obtain ⟨x,a,s,hx,ha,hs⟩:=Zk4 hT hk;have hw:=ZiT b c (Jo b br) l t k;refine .inl ⟨_,?_,rfl⟩;show XQ b c l t (Zr b) (Jo b br) (ZcZ b c (Jo b br) l t k) (k:Int)=_;unfold XQ;rw[Zdz h,Bq,if_pos (by omega),Zi6 h hv hA.cor hll hT hlen,Bq,ZwX hT (by omega),Bq,Zw5 hx ha hs,Bq,Y8 (by omega),Zk8];have e:Zib b c (Jo b br) l t k=Zts x a s (ZnU (k:Int) (Zcr b c (Jo b br) l t (k:Int))):=by
        unfold Zib;rw[hx,ha,hs];rfl
      rw[e];by_cases q:Zts x a s (ZnU (k:Int) (Zcr b c (Jo b br) l t (k:Int)))=true
      · rw[if_pos q,if_pos q,Zn (by simp only[List.length_cons,List.length_nil];omega)]
      · rw[if_neg q,if_neg q,List.append_nil]
    · rintro _ rfl
      show XQ b c l t (Zr b) (Jo b br) (ZcZ b c (Jo b br) l t (XF b)) (XF b:Int)=_;unfold XQ;rw[Zdz h,Bq,if_neg (Int.lt_irrefl _)]
  · refine Yv (XF b) (λk u=>u=(ZcZ b c (Jo b br) l t k,(k:Int),())) _ rfl ?_ ?_
    · rintro k _ hk rfl
      obtain ⟨x,a,s,hx,ha,hs⟩:=Zk4 hT hk;have hw:=ZiT b c (Jo b br) l t k;refine .inl ⟨_,?_,rfl⟩;show XL c l t (v,Jo b br,()) (XF b:Int) (ZcZ b c (Jo b br) l t k) (k:Int)=_;unfold XL;rw[if_pos (by omega),Zi1 h hv hA.cor hll hT hlen (Zu0 hA.src),Bq,hx,Bq,ha,Bq,hs,Bq,Y8 (by omega),Zk8,Zn (by simp only[List.length_cons,List.length_nil];omega)];have e:Zib b c (Jo b br) l t k=Zts x a s (ZnU (k:Int) (Zcr b c (Jo b br) l t (k:Int))):=by
        unfold Zib;rw[hx,ha,hs];rfl
      rw[e];generalize ZnU (k:Int) (Zcr b c (Jo b br) l t (k:Int))=r;show (if (r.1 == x)=true then (if eqS (Zh.ZA r.2) a=true then (if eqS (Zh.Xx r.2) s=true then _ else _) else _) else _)=_;unfold Zts;rw[show (r.1 == x)=(x == r.1) from Bool.beq_comm,Zpv _ a,Zpv _ s];by_cases q1:(x == r.1)=true
      · rw[if_pos q1,if_pos q1]
        by_cases q2:eqS a (Zh.ZA r.2)=true
        · rw[if_pos q2,if_pos q2]
          by_cases q3:eqS s (Zh.Xx r.2)=true
          · rw[if_pos q3,q3,if_neg (by decide),List.append_nil]
          · rw[if_neg q3,if_pos (by rw[Bool.not_eq_true] at q3;rw[q3];rfl)]
        · rw[if_neg q2,if_neg q2,if_pos rfl]
      · rw[if_neg q1,if_neg q1,if_pos rfl]
    · rintro _ rfl
      show XL c l t (v,Jo b br,()) (XF b:Int) (ZcZ b c (Jo b br) l t (XF b)) (XF b:Int)=_;unfold XL;rw[if_neg (Int.lt_irrefl _)]
theorem Zq8 (b:Zc) (c:Zt) (br:List Int) (l:List Zh) (t:Ze) (hb:sm YC b) (hc:sm Xf c) (hbr:br.length<=1048576) (hl:l.length<=1048576) :
    ∃ r,Zap b c br l t=some r/\ZaC b c br l t=some r/\r.1.length<=1048576/\(r.2=0/\Zie b c br l/\Zlc (XF b:Int) t/\r.1=ZcZ b c (Jo b br) l t (XF b)\/r.2≠0/\r.1=[]):=by
  unfold Zap ZaC;rcases Zwj b c br l t hb hc hbr hl with ⟨code,hne,e1,e2,_⟩ | ⟨v,hA,hT,hv,e1,e2⟩
  · rw[e1,e2,Bq,Bq,if_neg hne,if_neg hne]
    exact ⟨_,rfl,rfl,by simp,.inr ⟨hne,rfl⟩⟩
  · have h:=hA.blk
    have hn:=ZeL h;obtain ⟨w1,w2⟩:=Zo8 hA (Zz6 hT) hv hl;rw[e1,e2,Bq,if_pos rfl,Bq,show YA (Ya.view ((v,Jo b br,()):Ya))=some (XF b:Int) from ZmL h hv,Bq,Bq,if_pos rfl,Vq h,Bq,ZcQ _ _ (XH h) hbr,Bq];refine ⟨_,w2,w1,?_,.inl ⟨rfl,hA,by rw[show (XF b:Int)=2*((places (Zc.Design b)).length:Int) by have:=nN b;omega];exact hT,rfl⟩⟩;have:=ZiT b c (Jo b br) l t (XF b);simp only;omega
theorem ZDu (l:List Int) (x:Int) (hl:l.length<=1048576):ZCj l x=some (decide (x∈l)):=by
  have hL:Len l:=by unfold Len;omega
  unfold ZCj;rw[J4 (l:=l) hL (p:=λy=>decide (y=x)) (out:=λi=>decide (0<=i)) (step:=λv=>ZCa l x v.1)
    (λk y hy=>by
      have hk:=(List.getElem?_eq_some_iff.1 hy).1;simp only[ZCa,show (k:Int)<(l.length:Int) from by omega,if_true,Zo,hy,Bq,decide_eq_true_eq];split
      · rw[show decide (0<=(k:Int))=true from by simp]
      · rfl)
    (by simp only[ZCa,Int.lt_irrefl,if_false];rfl)]
  congr 1;rw[Bool.eq_iff_iff,decide_eq_true_eq,decide_eq_true_eq,ZaO,List.any_eq_true];simp
def Fed (b:Zc) (live:List Bool) (ch:List Bool) (node:Int) (m:Nat):Prop:=∃ (k:Nat) (x:Zm),k<m/\(Zr b)[k]?=some x/\live[k]?=some true/\Zm.To x=node/\atI ch (Zm.From x)=some true
noncomputable def due (b:Zc) (live:List Bool) (dirty:List Int) (ch:List Bool) (node:Int):Bool:=tr (node∈dirty\/Fed b live ch node (Zr b).length)
theorem ZDF {b:Zc} {live ch:List Bool} {node:Int} {k:Nat} {x:Zm} (hx:(Zr b)[k]?=some x):Fed b live ch node (k+1)<->Fed b live ch node k\/(live[k]?=some true/\Zm.To x=node/\atI ch (Zm.From x)=some true):=by
  constructor
  · rintro ⟨j,y,hj,hy,h1,h2,h3⟩
    by_cases e:j=k
    · subst e
      rw[hx] at hy;injection hy with hy
      subst hy;exact .inr ⟨h1,h2,h3⟩
    · exact .inl ⟨j,y,by omega,hy,h1,h2,h3⟩
  · rintro (⟨j,y,hj,hy,h1,h2,h3⟩ | ⟨h1,h2,h3⟩)
    · exact ⟨j,y,by omega,hy,h1,h2,h3⟩
    · exact ⟨k,x,by omega,hx,h1,h2,h3⟩
theorem ZDq {b:Zc} {live:List Bool} {node y:Int}:y∈toL b live node<->∃ (k:Nat) (x:Zm),(Zr b)[k]?=some x/\y=(k:Int)/\live[k]?=some true/\Zm.To x=node:=by
  unfold toL;rw[XU];constructor
  · rintro ⟨k,x,hx,hy⟩
    rw[Nat.zero_add] at hy;unfold toF at hy;split at hy
    · rename_i q
      split at hy
      · rename_i q2
        refine ⟨k,x,hx,List.mem_singleton.1 hy,?_,q2⟩;cases e:live[k]? with
        | none=>rw[e] at q;cases q
        | some lv=>rw[e] at q;rw[show lv=true from q]
      · cases hy
    · cases hy
  · rintro ⟨k,x,hx,rfl,h1,h2⟩
    refine ⟨k,x,hx,?_⟩;rw[Nat.zero_add];unfold toF;rw[h1,Option.getD_some,if_pos rfl,if_pos h2];exact List.mem_singleton.2 rfl
theorem ZDT {b:Zc} (h:XT b) (live:List Bool) (node:Int):(toL b live node).length<=6000:=by
  have:=Zs0 h live node (Zr b).length;rw[List.take_length] at this;exact this
theorem ZDO {b:Zc} (h:XT b) {ch:List Bool} (hch:ch.length=XF b) {x:Zm} (hx:x∈Zr b):∃ c,atI ch (Zm.From x)=some c:=by
  have:=(ZdW h hx).1;have e:=nN b;obtain ⟨c,hc,_⟩:=Zfm (l:=ch) this.1 (by omega);exact ⟨c,hc⟩
theorem ZDH {b:Zc} (h:XT b) {v:ZG} (hv:VOk b v) {live:List Bool} {ch:List Bool} (hch:ch.length=XF b) (node:Int) :
    ZBU (toL b live node) (ch,((v,live,()):Ya),())=some (tr (Fed b live ch node (Zr b).length)):=by
  have hl:=ZDT h live node;have el:ZG.links (Ya.view ((v,live,()):Ya))=Zr b:=hv.links;rw[ZB8 (by unfold Len;omega) (λy=>((atI (Zr b) y).bind λx=>atI ch (Zm.From x)).getD false) (λy hy=>by
    obtain ⟨k,x,hx,rfl,_,_⟩:=ZDq.1 hy;obtain ⟨c,hc⟩:=ZDO h hch (List.mem_of_getElem? hx);show ZB6 (k:Int) ch ((v,live,()):Ya)=_;unfold ZB6;rw[el,Zo,hx,Bq,Bq,hc];rfl)]
  congr 1;rw[Bool.eq_iff_iff,List.any_eq_true,YH];constructor
  · rintro ⟨y,hy,hp⟩
    obtain ⟨k,x,hx,rfl,h1,h2⟩:=ZDq.1 hy;rw[Zo,hx,Bq] at hp;obtain ⟨c,hc⟩:=ZDO h hch (List.mem_of_getElem? hx);rw[hc,Option.getD_some] at hp;subst hp;exact ⟨k,x,(List.getElem?_eq_some_iff.1 hx).1,hx,h1,h2,hc⟩
  · rintro ⟨k,x,hk,hx,h1,h2,h3⟩
    refine ⟨(k:Int),ZDq.2 ⟨k,x,hx,rfl,h1,h2⟩,?_⟩;rw[Zo,hx,Bq,h3];rfl
theorem Zir {α σ:Type} {f:Nat->α->σ->σ} {I:σ->Prop}:∀ (l:List α) (m:Nat) (s:σ),I s->(∀ k x s,l[k]?=some x->I s->I (f (m+k) x s))->I (foldI f m l s)
  | [],_,_,h,_=>h
  | x::l,m,s,h,hf=>by
    simp only[foldI];have h0:=hf 0 x s rfl h;rw[Nat.add_zero] at h0;refine Zir l (m+1) _ h0 λk y s hy hs=>?_;rw[show m+1+k=m+(k+1) by omega];exact hf (k+1) y s (by rw[List.getElem?_cons_succ];exact hy) hs
def StB (st:NSt):Prop:=∀ q,st=some q->Zth q.2
theorem Zu2:Zth Jq:=by
  refine ⟨⟨?_,?_⟩,?_,?_⟩<;>decide
theorem Zv3 {s:Zv} (h:Zef s):Zth s:=by
  obtain ⟨z1,z2,z3⟩:=h;exact ⟨⟨by omega,by omega⟩,by omega,by omega⟩
theorem Zuf {a s:Zv} (ha:Zth a) (hs:Zth s):Zth (hul a s):=by
  obtain ⟨⟨a1,a2⟩,a3,a4⟩:=ha;obtain ⟨⟨b1,b2⟩,b3,b4⟩:=hs;unfold hul;refine ⟨⟨?_,?_⟩,?_,?_⟩
  · show -1000000<=Min.min _ _;omega
  · show Min.min _ _<=1000000;omega
  · show -1000000<=Max.max _ _;omega
  · show Max.max _ _<=1000000;omega
theorem ZuH {b:Zc} (h:XT b) {v:ZG} (hv:VOk b v) {c:Zt} (hc:Vs c) {t:Ze} (ht:Zf9 (XF b) t) {k:Nat} {x:Zm} (hx:(Zr b)[k]?=some x) {st:NSt} (hs:StB st):StB (Zl6 b c t x st):=by
  obtain ⟨r,a,s,hr,ha,hs',hsb⟩:=ZoA h ht (List.mem_of_getElem? hx);obtain ⟨d,o,e1,e2,_,_,o1,o2⟩:=spans_eq h hv hc hx hsb.1 hsb.2;have hsp:spn b c x s=(d,o):=by unfold spn;rw[e2];rfl
  have hu:Zl6 b c t x st=if r=true then Zr9 st (ZmP a d) o else st:=by
    unfold Zl6;rw[hr,ha,hs'];simp only[Option.getD_some,hsp]
  rw[hu];split
  · intro q hq
    cases st with
    | none =>
      injection hq with hq
      rw[<-hq];exact ⟨o1,o2⟩
    | some p =>
      injection hq with hq
      rw[<-hq];exact Zuf (hs p rfl) ⟨o1,o2⟩
  · exact hs
theorem ZqP {b:Zc} {c:Zt} {br:List Int} {l:List Zh} (hA:Zie b c br l) {v:ZG} (hv:VOk b v) {t:Ze} (ht:Zf9 (XF b) t) (live:List Bool) (node:Int):StB (Zcr b c live l t node):=by
  unfold Zcr;refine Zir _ _ _ ?_ (λk x st hx hs=>?_)
  · unfold ZfR
    refine Zir _ _ _ (λq hq=>by cases hq) (λk x st hx hs=>?_);show StB (if Zh.Node x=node then _ else st);split
    · intro q hq
      injection hq with hq
      rw[<-hq];exact Zv3 (hA.src k x hx).2.2.2
    · exact hs
  · show StB (if (live[0+k]?).getD false=true then _ else st)
    split
    · split
      · exact ZuH hA.blk hv hA.cor ht hx hs
      · exact hs
    · exact hs
theorem Zsx {n:Nat} {t:Ze} (ht:Zf9 n t) (k:Nat) {r:Bool×Zh} (hr:Zth (Zh.Xx r.2)):Zf9 n (Zg4 t k r):=by
  refine ⟨?_,?_,?_,λs hs=>?_⟩
  · show (List.set (Ze.Reached t) k r.1).length=n
    rw[List.length_set];exact ht.lr
  · show (List.set (Ze.ZA t) k (Zh.ZA r.2)).length=n
    rw[List.length_set];exact ht.la
  · show (List.set (Ze.Xx t) k (Zh.Xx r.2)).length=n
    rw[List.length_set];exact ht.ls
  · rcases List.mem_or_eq_of_mem_set (show s∈List.set (Ze.Xx t) k (Zh.Xx r.2) from hs) with q | q
    · exact ht.sl s q
    · rw[q];exact hr
theorem Zuc {st:NSt} (h:StB st) (node:Int):Zth (Zh.Xx (ZnU node st).2):=by
  cases st with
  | none=>exact Zu2
  | some q=>exact h q rfl
theorem ZuZ {live:List Bool} {L:List Zm} {n:Nat} {out:List Int} {v:Nat} (h:nxt live L n out=some v):v<n/\(v:Int) ∉ out/\ZgD live L out (v:Int)=0:=by
  unfold nxt at h;rw[List.find?_range_eq_some] at h;obtain ⟨hp,hv,_⟩:=h;rw[Bool.and_eq_true,decide_eq_true_eq,decide_eq_true_eq] at hp;exact ⟨List.mem_range.1 hv,hp⟩
theorem Zso (live:List Bool) (L:List Zm) (n:Nat):∀ (m:Nat) (out:List Int),(∀ u∈out,0<=u/\u<(n:Int))->(Zok live L n m out).1.length<=out.length+m/\∀ u∈(Zok live L n m out).1,0<=u/\u<(n:Int)
  | 0,out,h=>⟨by show out.length<=_;omega,h⟩
  | m+1,out,h=>by
    unfold Zok;cases e:nxt live L n out with
    | none=>exact ⟨by simp,λu hu=>by cases hu⟩
    | some v =>
      have hv:=(ZuZ e).1;obtain ⟨h1,h2⟩:=Zso live L n m (out++[(v:Int)]) (λu hu=>by
        rcases List.mem_append.1 hu with q | q
        · exact h u q
        · rw[List.mem_singleton.1 q];omega)
      refine ⟨?_,h2⟩;rw[List.length_append] at h1;simp only[List.length_cons,List.length_nil] at h1;show (Zok live L n m (out++[(v:Int)])).1.length<=_;omega
theorem Zp4 (b:Zc) (br:List Int):(Zay b br).1.length<=XF b/\∀ u∈(Zay b br).1,0<=u/\u<(XF b:Int):=by
  have:=Zso (Jo b br) (Zr b) (XF b) (XF b) [] (λu hu=>by cases hu);rw[List.length_nil,Nat.zero_add] at this;exact this
noncomputable def newV (b:Zc) (c:Zt) (live:List Bool) (l:List Zh) (t:Ze) (node:Int):Bool×Zh:=ZnU node (Zcr b c live l t node)
noncomputable def Zti (r:Bool×Zh):Bool:=r.1&&!tr (JN (Zh.ZA r.2))
noncomputable def ZCo (b:Zc) (c:Zt) (live:List Bool) (l:List Zh) (dirty:List Int):List Int->List Int->Ze->List Bool->Bool×List Int×Ze
  | [],d,t,_=>(true,d,t)
  | node::r,d,t,ch=>match due b live dirty ch node with
    | true=>match Zti (newV b c live l t node) with
      | true=>(false,[],t)
      | false=>ZCo b c live l dirty r (d++[node]) (Zg4 t node.toNat (newV b c live l t node)) (List.set ch node.toNat (Zib b c live l t node.toNat))
    | false=>ZCo b c live l dirty r d t ch
theorem ZDb {b:Zc} {c:Zt} {live:List Bool} {l:List Zh} {t:Ze} {k:Nat} {x:Bool} {a s:Zv} (hx:atI (Ze.Reached t) (k:Int)=some x) (ha:atI (Ze.ZA t) (k:Int)=some a) (hs:atI (Ze.Xx t) (k:Int)=some s):Zib b c live l t k=Zts x a s (newV b c live l t (k:Int)):=by
  unfold Zib newV;rw[hx,ha,hs];rfl
theorem ZCJ (b:Zc) (c:Zt) (live:List Bool) (l:List Zh) (dirty:List Int) {n:Nat} {P:Ze->Prop} (hP:∀ (t:Ze) (node:Int),P t->P (Zg4 t node.toNat (newV b c live l t node))) :
    ∀ (r d:List Int) (t:Ze) (ch:List Bool),P t->(ZCo b c live l dirty r d t ch).2.1.length<=d.length+r.length/\P (ZCo b c live l dirty r d t ch).2.2
  | [],d,t,ch,h=>⟨by show d.length<=_;simp,h⟩
  | node::r,d,t,ch,h=>by
    unfold ZCo;split
    · split
      · exact ⟨by simp,h⟩
      · have:=ZCJ b c live l dirty (n:=n) hP r (d++[node]) _ (List.set ch node.toNat (Zib b c live l t node.toNat)) (hP t node h)
        rw[List.length_append] at this;simp only[List.length_cons,List.length_nil] at this ⊢;exact ⟨by omega,this.2⟩
    · have:=ZCJ b c live l dirty (n:=n) hP r d t ch h
      simp only[List.length_cons];exact ⟨by omega,this.2⟩
def noT:Ze:=([],[],[],())
section
variable {b:Zc} {c:Zt} {br:List Int} {l:List Zh} {v:ZG}
theorem ZDK (hA:Zie b c br l) {ch:List Bool} (hch:ch.length=XF b) {node:Int} {dirty:List Int}
    {v0:List Int} {v1:Int} {c0:List Bool} {c1 c2:List Zv} {l0:List Bool} {l1 l2:List Zv} {R:(List Int×Int×List Bool×List Zv×List Zv×List Bool×List Zv×List Zv×List Bool×Unit) ⊕ (Ze×List Int×Bool)}
    (hR:ZB7 b c l (Zr b) (Jo b br) v0 v1 c0 c1 c2 l0 l1 l2 ch node (due b (Jo b br) dirty ch node) ((Zr b).length:Int)=some (.inr R)) :
    Zp (λu=>ZB7 b c l (Zr b) (Jo b br) v0 v1 c0 c1 c2 l0 l1 l2 ch node u.1 u.2.1) (decide (node∈dirty),(0:Int),())=some R:=by
  have h:=hA.blk;have h6:=XH h;have hll:(Jo b br).length=(Zr b).length:=Zfa _ _;refine Yv (Zr b).length (λk u=>u=(tr (node∈dirty\/Fed b (Jo b br) ch node k),(k:Int),())) _ ?_ ?_ ?_
  · have e:tr (node∈dirty\/Fed b (Jo b br) ch node 0)=decide (node∈dirty):=ZlA (by
      rw[decide_eq_true_eq];constructor
      · exact .inl
      · rintro (q | ⟨k,_,hk,_⟩)
        · exact q
        · omega)
    show _=(tr _,(0:Int),());rw[e]
  · rintro k _ hk rfl
    have hx:(Zr b)[k]?=some ((Zr b)[k]'hk):=List.getElem?_eq_getElem _;have hlv:(Jo b br)[k]?=some ((Jo b br)[k]'(by omega)):=List.getElem?_eq_getElem _;generalize (Zr b)[k]'hk=x at hx;generalize (Jo b br)[k]'(by omega)=lv at hlv;obtain ⟨cx,hcx⟩:=ZDO h hch (List.mem_of_getElem? hx);refine .inl ⟨(tr (node∈dirty\/Fed b (Jo b br) ch node (k+1)),((k+1:Nat):Int),()),?_,rfl⟩;show ZB7 b c l (Zr b) (Jo b br) v0 v1 c0 c1 c2 l0 l1 l2 ch node (tr (node∈dirty\/Fed b (Jo b br) ch node k)) (k:Int)=_;unfold ZB7;rw[if_pos (by omega),Y8 (by omega)];have hf:=ZDF (live:=Jo b br) (ch:=ch) (node:=node) hx;rw[hlv,hcx] at hf;by_cases q:node∈dirty\/Fed b (Jo b br) ch node k
    · rw[if_pos (ZU q),ZU (q.imp id λz=>hf.2 (.inl z))]
    · rw[if_neg (λz=>q ((YH _).1 z)),Zo,hlv,Bq]
      have hd:node ∉ dirty:=λz=>q (.inl z);have hk0:¬Fed b (Jo b br) ch node k:=λz=>q (.inr z);by_cases q1:lv=true
      · rw[if_pos q1,Zo,hx,Bq]
        by_cases q2:Zm.To x=node
        · rw[if_pos q2,hcx,Bq]
          have e:tr (node∈dirty\/Fed b (Jo b br) ch node (k+1))=cx:=ZlA (by
            rw[hf];constructor
            · exact λz=>.inr (.inr ⟨by rw[q1],q2,by rw[z]⟩)
            · rintro (z | z | ⟨_,_,z⟩)
              · exact absurd z hd
              · exact absurd z hk0
              · injection z)
          rw[e]
        · rw[if_neg q2,Z4 (λz=>by
            rcases z with z | z
            · exact hd z
            · rcases hf.1 z with z | z
              · exact hk0 z
              · exact q2 z.2.1)]
      · rw[if_neg q1,Z4 (λz=>by
          rcases z with z | z
          · exact hd z
          · rcases hf.1 z with z | z
            · exact hk0 z
            · have:=z.1;injection this with this;exact q1 this)]
  · rintro _ rfl
    exact hR
theorem ZDG (hA:Zie b c br l) (hv:VOk b v) {ch:List Bool} (hch:ch.length=XF b) (node:Int) {dirty:List Int} (hd:dirty.length<=1048576) {ρ:Type} (T F:Option ρ) :
    ((ZBY dirty node).bind λx=>if x=true then T else (Zcm ((v,Jo b br,()):Ya) node).bind λto0=>(ZBU to0 (ch,((v,Jo b br,()):Ya),())).bind λy=>if y=true then T else F)=if due b (Jo b br) dirty ch node=true then T else F:=by
  have h:=hA.blk;have hll:(Jo b br).length=(Zr b).length:=Zfa _ _;rw[ZCi (by unfold Len;omega),Bq,ZoE h hv hll,Bq,ZDH h hv hch,Bq];unfold due;by_cases q:node∈dirty
  · rw[if_pos (decide_eq_true q),if_pos (ZU (.inl q))]
  · rw[if_neg (by rw[decide_eq_true_eq];exact q)]
    by_cases q2:Fed b (Jo b br) ch node (Zr b).length
    · rw[if_pos (ZU q2),if_pos (ZU (.inr q2))]
    · rw[if_neg (λz=>q2 ((YH _).1 z)),if_neg (λz=>by rcases (YH _).1 z with z | z;exact q z;exact q2 z)]
theorem ZDR {l0 ch:List Bool} {l1 l2:List Zv} {node:Int} {x cc:Bool} {a s:Zv} (hx:atI l0 node=some x) (ha:atI l1 node=some a) (hs:atI l2 node=some s) (hc:atI ch node=some cc) (r:Bool×Zh) {ρ:Type} (F:Bool->ρ) :
    ((atI l0 node).bind λx1=>if (r.1 == x1)=true then (atI l1 node).bind λx2=>if eqS (Zh.ZA r.2) x2=true then (atI l2 node).bind λx3=>(atI ch node).bind λ_=>some (F (!(eqS (Zh.Xx r.2) x3))) else (atI ch node).bind λ_=>(atI l2 node).bind λ_=>some (F true)
      else (atI ch node).bind λ_=>(atI l1 node).bind λ_=>(atI l2 node).bind λ_=>some (F true))=some (F (Zts x a s r)):=by
  rw[hx,ha,hs,hc];simp only[Bq];unfold Zts;rw[show (r.1 == x)=(x == r.1) from Bool.beq_comm,Zpv _ a,Zpv _ s];split
  · split
    · rfl
    · rfl
  · rfl
theorem ZDA {t:Ze} {n k:Nat} {ch:List Bool} (ht:Zf9 n t) (hch:ch.length=n) (hk:k<n):∃ cc,atI ch (k:Int)=some cc:=⟨_,by rw[Zo];exact List.getElem?_eq_getElem (by omega)⟩
theorem ZCI (hA:Zie b c br l) (hv:VOk b v) (hl:l.length<=1048576) {dirty ord:List Int} (hd:dirty.length<=1048576) {d:List Int} {t:Ze} {ch:List Bool} (ht:Zf9 (XF b) t) (hch:ch.length=XF b) {k:Nat} {node:Int} (hk:ord[k]?=some node) (hk2:k<=1048576) (hdl:d.length<=1048576) (hn:0<=node/\node<(XF b:Int)) :
    ZB0 ((v,Jo b br,()):Ya) c l dirty ord d (k:Int) (Ze.Reached t) (Ze.ZA t) (Ze.Xx t) ch=some (match due b (Jo b br) dirty ch node with
      | true=>match Zti (newV b c (Jo b br) l t node) with
        | true=>.inr ([],false,t)
        | false=>.inl (d++[node],((k+1:Nat):Int),Ze.Reached (Zg4 t node.toNat (newV b c (Jo b br) l t node)),Ze.ZA (Zg4 t node.toNat (newV b c (Jo b br) l t node)),Ze.Xx (Zg4 t node.toNat (newV b c (Jo b br) l t node)),List.set ch node.toNat (Zib b c (Jo b br) l t node.toNat),())
      | false=>.inl (d,((k+1:Nat):Int),Ze.Reached t,Ze.ZA t,Ze.Xx t,ch,())):=by
  have h:=hA.blk;have hn1:=ZeL h;have hll:(Jo b br).length=(Zr b).length:=Zfa _ _;have hlen:Len l:=by unfold Len;omega
  have hkl:=(List.getElem?_eq_some_iff.1 hk).1;obtain ⟨j,rfl⟩:∃ j:Nat,node=(j:Int):=⟨node.toNat,by omega⟩;have hj:j<XF b:=by omega
  obtain ⟨x,a,s,hx,ha,hs⟩:=Zk4 ht hj;obtain ⟨cc,hcc⟩:=ZDA ht hch hj;have hw:=ZDb (b:=b) (c:=c) (live:=Jo b br) (l:=l) hx ha hs;have hnode:=Zi1 h hv hA.cor hll ht hlen (Zu0 hA.src) (j:Int);rw[show ZnU (j:Int) (Zcr b c (Jo b br) l t (j:Int))=newV b c (Jo b br) l t (j:Int) from rfl] at hnode;unfold ZB0;rw[if_pos (by omega),Zo,hk,Bq,ZDG hA hv hch (j:Int) hd,Y8 hk2,Zn (by simp only[List.length_cons,List.length_nil];omega)];cases hdue:due b (Jo b br) dirty ch (j:Int) with
  | false=>rw[if_neg (by decide)]
  | true =>
    rw[if_pos rfl];show (Y1 _ c l t (j:Int)).bind _=_;rw[hnode,Bq,Int.toNat_natCast,hw];generalize newV b c (Jo b br) l t (j:Int)=r;have htail:=ZDR hx ha hs hcc r (F:=λz=>(Sum.inl (d++[(j:Int)],((k+1:Nat):Int),Ze.Reached (Zg4 t j r),Ze.ZA (Zg4 t j r),Ze.Xx (Zg4 t j r),List.set ch j z,()):(List Int×Int×List Bool×List Zv×List Zv×List Bool×Unit) ⊕ (List Int×Bool×Ze)));by_cases q1:r.1=true
    · rw[if_pos q1,show JB r.2.2.1=some (tr (JN (Zh.ZA r.2))) from Zbi _,Bq]
      have hb:Zti r = !tr (JN (Zh.ZA r.2)):=by
        unfold Zti;rw[q1,Bool.true_and]
      rw[hb];by_cases q2:JN (Zh.ZA r.2)
      · rw[if_pos (ZU q2),ZU q2]
        exact htail
      · rw[if_neg (λz=>q2 ((YH _).1 z)),Z4 q2]
        rfl
    · rw[if_neg q1]
      have hb:Zti r=false:=by
        unfold Zti;rw[Bool.not_eq_true] at q1;rw[q1,Bool.false_and]
      rw[hb];exact htail
end
section
variable {b:Zc} {c:Zt} {br:List Int} {l:List Zh} {v:ZG}
theorem ZCL (hA:Zie b c br l) (hv:VOk b v) (hl:l.length<=1048576) {dirty:List Int} {TO:List Int×Int} (hd:dirty.length<=1048576) {d:List Int} {c0:List Bool} {c1 c2:List Zv} {t:Ze} {ch:List Bool} (ht:Zf9 (XF b) t) (hch:ch.length=XF b) {k:Nat} {node:Int} (hk:TO.1[k]?=some node) (hk2:k<=1048576) (hdl:d.length<=1048576) (hn:0<=node/\node<(XF b:Int)) :
    ZB4 b c l dirty (Zr b) (Jo b br) TO d (k:Int) c0 c1 c2 (Ze.Reached t) (Ze.ZA t) (Ze.Xx t) ch=some (match due b (Jo b br) dirty ch node with
      | true=>match Zti (newV b c (Jo b br) l t node) with
        | true=>.inr (noT,[],false)
        | false=>.inl (d++[node],((k+1:Nat):Int),c0,c1,c2,Ze.Reached (Zg4 t node.toNat (newV b c (Jo b br) l t node)),Ze.ZA (Zg4 t node.toNat (newV b c (Jo b br) l t node)),Ze.Xx (Zg4 t node.toNat (newV b c (Jo b br) l t node)),List.set ch node.toNat (Zib b c (Jo b br) l t node.toNat),())
      | false=>.inl (d,((k+1:Nat):Int),c0,c1,c2,Ze.Reached t,Ze.ZA t,Ze.Xx t,ch,())):=by
  have h:=hA.blk;have hn1:=ZeL h;have hll:(Jo b br).length=(Zr b).length:=Zfa _ _;have hlen:Len l:=by unfold Len;omega
  have hkl:=(List.getElem?_eq_some_iff.1 hk).1;obtain ⟨j,rfl⟩:∃ j:Nat,node=(j:Int):=⟨node.toNat,by omega⟩;have hj:j<XF b:=by omega
  obtain ⟨x,a,s,hx,ha,hs⟩:=Zk4 ht hj;obtain ⟨cc,hcc⟩:=ZDA ht hch hj;have hw:=ZDb (b:=b) (c:=c) (live:=Jo b br) (l:=l) hx ha hs;have hnode:=Zi6 h hv hA.cor hll ht hlen (j:Int);have hset:=Zw5 hx ha hs (j:Int) (Zcr b c (Jo b br) l t (j:Int));rw[show ZnU (j:Int) (Zcr b c (Jo b br) l t (j:Int))=newV b c (Jo b br) l t (j:Int) from rfl] at hnode hset;unfold ZB4;rw[if_pos (by omega),Zo,hk,Bq,ZDu dirty (j:Int) hd,Bq];refine ZDK hA hch ?_;unfold ZB7;rw[if_neg (Int.lt_irrefl _),Y8 hk2];cases hdue:due b (Jo b br) dirty ch (j:Int) with
  | false=>rw[if_neg (by decide)]
  | true =>
    rw[if_pos rfl];show (VP b c (Zr b) (Jo b br) l t (j:Int)).bind _=_;rw[hnode,Bq,Int.toNat_natCast,hw];generalize newV b c (Jo b br) l t (j:Int)=r at *;have hput:∀ {ρ:Type} (F:Bool×Ze->ρ),((ZfQ t (j:Int) r.1 r.2).bind λz=>(atI ch (j:Int)).bind λ_=>Zw ((List.length d+List.length [(j:Int)])*(8:Nat)<=(140737488355328:Nat)) <| some (F z))=some (F (Zts x a s r,Zg4 t j r)):=λF=>by
      rw[hset,Bq,hcc,Bq,Zn (by simp only[List.length_cons,List.length_nil];omega)]
    have hfin:=hput λz=>(Sum.inr (Sum.inl (d++[(j:Int)],((k+1:Nat):Int),c0,c1,c2,Ze.Reached z.2,Ze.ZA z.2,Ze.Xx z.2,List.set ch j z.1,())):(Bool×Int×Unit) ⊕ ((List Int×Int×List Bool×List Zv×List Zv×List Bool×List Zv×List Zv×List Bool×Unit) ⊕ (Ze×List Int×Bool)));by_cases q1:r.1=true
    · rw[if_pos q1,show JH r.2.2.1=some (tr (JN (Zh.ZA r.2))) from Zdr _,Bq]
      have hb:Zti r = !tr (JN (Zh.ZA r.2)):=by
        unfold Zti;rw[q1,Bool.true_and]
      rw[hb];by_cases q2:JN (Zh.ZA r.2)
      · rw[if_pos (ZU q2),ZU q2]
        exact hfin
      · rw[if_neg (λz=>q2 ((YH _).1 z)),Z4 q2]
        rfl
    · rw[if_neg q1]
      have hb:Zti r=false:=by
        unfold Zti;rw[Bool.not_eq_true] at q1;rw[q1,Bool.false_and]
      rw[hb];exact hfin
theorem ZCB (hA:Zie b c br l) (hv:VOk b v) (hl:l.length<=1048576) {dirty:List Int} (hd:dirty.length<=1048576) {TO:List Int×Int} (hT:TO.1.length<=1000/\∀ u∈TO.1,0<=u/\u<(XF b:Int)) {c0:List Bool} {c1 c2:List Zv} :
    ∀ (r:List Int) (k:Nat) (d:List Int) (t:Ze) (ch:List Bool),TO.1.drop k=r->k<=TO.1.length->d.length<=k->Zf9 (XF b) t->ch.length=XF b->
      Zp (λu=>ZB0 ((v,Jo b br,()):Ya) c l dirty TO.1 u.1 u.2.1 u.2.2.1 u.2.2.2.1 u.2.2.2.2.1 u.2.2.2.2.2.1) (d,(k:Int),Ze.Reached t,Ze.ZA t,Ze.Xx t,ch,())=some ((ZCo b c (Jo b br) l dirty r d t ch).2.1,(ZCo b c (Jo b br) l dirty r d t ch).1,(ZCo b c (Jo b br) l dirty r d t ch).2.2)/\
      Zp (λu=>ZB4 b c l dirty (Zr b) (Jo b br) TO u.1 u.2.1 u.2.2.1 u.2.2.2.1 u.2.2.2.2.1 u.2.2.2.2.2.1 u.2.2.2.2.2.2.1 u.2.2.2.2.2.2.2.1 u.2.2.2.2.2.2.2.2.1) (d,(k:Int),c0,c1,c2,Ze.Reached t,Ze.ZA t,Ze.Xx t,ch,())=some (match (ZCo b c (Jo b br) l dirty r d t ch).1 with
        | true=>((ZCo b c (Jo b br) l dirty r d t ch).2.2,(ZCo b c (Jo b br) l dirty r d t ch).2.1,true)
        | false=>(noT,[],false))
  | [],k,d,t,ch,hr,hk,hdk,ht,hch=>by
    have hke:k=TO.1.length:=by
      have:=congrArg List.length hr;rw[List.length_drop,List.length_nil] at this;omega
    subst hke;constructor
    · refine YL ?_
      show ZB0 ((v,Jo b br,()):Ya) c l dirty TO.1 d (TO.1.length:Int) (Ze.Reached t) (Ze.ZA t) (Ze.Xx t) ch=_;unfold ZB0;rw[if_neg (Int.lt_irrefl _)];rfl
    · refine YL ?_
      show ZB4 b c l dirty (Zr b) (Jo b br) TO d (TO.1.length:Int) c0 c1 c2 (Ze.Reached t) (Ze.ZA t) (Ze.Xx t) ch=_;unfold ZB4;rw[if_neg (Int.lt_irrefl _)];rfl
  | node::r,k,d,t,ch,hr,hk,hdk,ht,hch=>by
    have hkl:k<TO.1.length:=by
      have:=congrArg List.length hr;rw[List.length_drop,List.length_cons] at this;omega
    have hnode:TO.1[k]?=some node:=by
      have:=congrArg (λz=>z[0]?) hr;simp only[List.getElem?_drop,Nat.add_zero,List.getElem?_cons_zero] at this;exact this
    have hr':TO.1.drop (k+1)=r:=by
      rw[<-List.tail_drop,hr];rfl
    have hin:=hT.2 node (List.mem_of_getElem? hnode);have h1:=ZCI hA hv hl hd (ord:=TO.1) ht hch hnode (by omega) (d:=d) (by omega) hin;have h2:=ZCL hA hv hl hd (TO:=TO) (c0:=c0) (c1:=c1) (c2:=c2) ht hch hnode (by omega) (d:=d) (by omega) hin;unfold ZCo;cases hdue:due b (Jo b br) dirty ch node with
    | false =>
      rw[hdue] at h1 h2;have ih:=ZCB hA hv hl hd hT (c0:=c0) (c1:=c1) (c2:=c2) r (k+1) d t ch hr' hkl (by omega) ht hch;exact ⟨(YM h1).trans ih.1,(YM h2).trans ih.2⟩
    | true =>
      rw[hdue] at h1 h2;cases hbad:Zti (newV b c (Jo b br) l t node) with
      | true =>
        rw[hbad] at h1 h2;exact ⟨YL h1,YL h2⟩
      | false =>
        rw[hbad] at h1 h2;have ih:=ZCB hA hv hl hd hT (c0:=c0) (c1:=c1) (c2:=c2) r (k+1) (d++[node]) (Zg4 t node.toNat (newV b c (Jo b br) l t node)) (List.set ch node.toNat (Zib b c (Jo b br) l t node.toNat)) hr' hkl (by rw[List.length_append];simp only[List.length_cons,List.length_nil];omega)
          (Zsx ht _ (Zuc (ZqP hA hv ht _ _) _)) (by rw[List.length_set];exact hch)
        exact ⟨(YM h1).trans ih.1,(YM h2).trans ih.2⟩
end
theorem ZDE {t:Ze} {n:Nat} (ht:Zf9 n t) (hn:n<=1048576):ZCf t=some t:=by
  have h1:=ht.lr;have h2:=ht.la;have h3:=ht.ls;unfold ZCf ZCd ZB2;rw[Zn (by rw[List.length_nil];omega),Zn (by rw[List.length_nil];omega),Zn (by rw[List.length_nil];omega)];rfl
theorem ZDc {b:Zc} (h:XT b) {v:ZG} (hv:VOk b v) {nd:List Int} (hnd:nd.length<=1048576):ZCb v nd=some (tr (Zj0 (XF b:Int) nd)):=by
  have hn:=ZeL h;unfold ZCb;rw[ZmL h hv,Bq,YI (by omega) (by omega)];exact ZoH nd _ hnd
theorem ZDn {b:Zc} (h:XT b) {nd:List Int} (hnd:nd.length<=1048576):ZCl b nd=some (tr (Zj0 (XF b:Int) nd)):=by
  have hn:=ZeL h;unfold ZCl;rw[Zdz h,Bq,ZiQ nd _ hnd (by omega)];rfl
theorem ZCp (b:Zc) (c:Zt) (br:List Int) (l:List Zh) (t:Ze) (dirty:List Int) (hb:sm YC b) (hc:sm Xf c) (hbr:br.length<=1048576) (hl:l.length<=1048576) (hd:dirty.length<=1048576) :
    ∃ r n,ZB3 b c br l t dirty=some r/\ZCc b c br l t dirty=some r/\r.2.1.length<=1048576/\Zf9 n r.1/\n<=1048576/\
      ((Zie b c br l/\Zlc (XF b:Int) t/\Zj0 (XF b:Int) dirty/\((r.2.2=0/\(true,r.2.1,r.1)=ZCo b c (Jo b br) l dirty (Zay b br).1 [] t (List.replicate (XF b) false))\/(r.2.2=3/\r.1=noT/\r.2.1=[]/\(ZCo b c (Jo b br) l dirty (Zay b br).1 [] t (List.replicate (XF b) false)).1=false)))\/
       (r.2.2≠0/\r.1=noT/\r.2.1=[]/\(r.2.2=7/\Pre b c br l/\Zlc (XF b:Int) t/\(Zay b br).2≠true\/¬(Pre b c br l/\Zlc (XF b:Int) t/\Zj0 (XF b:Int) dirty)))):=by
  have en:(XF b:Int)=2*((places (Zc.Design b)).length:Int):=by have:=nN b;omega
  rw[en];unfold ZB3 ZCc;have hnil:Zf9 0 noT:=⟨rfl,rfl,rfl,λs hs=>by cases hs⟩;rcases Zwj b c br l t hb hc hbr hl with ⟨code,hne,e1,e2,hw⟩ | ⟨v,hA,hT,hv,e1,e2⟩
  · rw[e1,e2,Bq,Bq,if_neg hne,if_neg hne]
    exact ⟨_,0,rfl,rfl,by simp,hnil,by omega,.inr ⟨hne,rfl,rfl,hw.elim .inl λq=>.inr λz=>q ⟨z.1,z.2.1⟩⟩⟩
  · have h:=hA.blk
    have hn:=ZeL h;rw[e1,e2,Bq,if_pos rfl,Bq,show ZCb (Ya.view ((v,Jo b br,()):Ya)) dirty=_ from ZDc h hv hd,Bq,Bq,if_pos rfl,ZDn h hd,Bq];rw[<-en];by_cases hN:Zj0 (XF b:Int) dirty
    · have htb:=Zz6 hT
      have hO:=Zp4 b br;rw[if_pos (ZU hN),if_pos (ZU hN),ZDE htb (by omega),Bq];unfold ZCh ZCm;rw[show YA (Ya.view ((v,Jo b br,()):Ya))=some (XF b:Int) from ZmL h hv,Bq,Zn (by omega),Zn (by omega),Zn (by omega),Zn (by omega),Vq h,Bq,ZcQ _ _ (XH h) hbr,Bq,Zs1 h hbr hA.ris,Bq,ZwX htb (by omega),Bq,Zdz h,Bq,Zn (by omega),Zn (by omega),Zn (by omega),Zn (by omega),if_pos hA.ord];obtain ⟨w1,w2⟩:=ZCB hA hv hl hd (TO:=((Zay b br).1,0)) ⟨by show (Zay b br).1.length<=1000;omega,hO.2⟩ (c0:=[]) (c1:=[]) (c2:=[]) (Zay b br).1 0 [] t (List.replicate (XF b) false) rfl (Nat.zero_le _) (Nat.le_refl _) htb (List.length_replicate);rw[Int.toNat_natCast];obtain ⟨u1,u2⟩:=ZCJ b c (Jo b br) l dirty (n:=XF b) (P:=Zf9 (XF b)) (λt node ht=>Zsx ht _ (Zuc (ZqP hA hv ht _ _) _)) (Zay b br).1 [] t (List.replicate (XF b) false) htb;generalize ZCo b c (Jo b br) l dirty (Zay b br).1 [] t (List.replicate (XF b) false)=R at *;rw[show (Zp (λv_1=>ZB0 ((v,Jo b br,()):Ya) c l dirty (Zay b br).1 v_1.1 v_1.2.1 v_1.2.2.1 v_1.2.2.2.1 v_1.2.2.2.2.1 v_1.2.2.2.2.2.1) (([]:List Int),(0:Int),Ze.Reached t,Ze.ZA t,Ze.Xx t,List.replicate (XF b) false,()))=_ from w1,Bq];rw[show (Zp (λv_1=>ZB4 b c l dirty (Zr b) (ZdA (Zr b).length br) ((Zay b br).1,0) v_1.1 v_1.2.1 v_1.2.2.1 v_1.2.2.2.1 v_1.2.2.2.2.1 v_1.2.2.2.2.2.1 v_1.2.2.2.2.2.2.1 v_1.2.2.2.2.2.2.2.1 v_1.2.2.2.2.2.2.2.2.1) (([]:List Int),(0:Int),([]:List Bool),([]:List Zv),([]:List Zv),Ze.Reached t,Ze.ZA t,Ze.Xx t,List.replicate (XF b) false,()))=_ from w2,Bq];obtain ⟨ok,dn,tt⟩:=R;cases ok with
      | true=>exact ⟨_,XF b,rfl,rfl,by simp only[List.length_nil] at u1 ⊢;omega,u2,by omega,.inl ⟨hA,by rw[en];exact hT,hN,.inl ⟨rfl,rfl⟩⟩⟩
      | false=>exact ⟨_,0,rfl,rfl,by simp,hnil,by omega,.inl ⟨hA,by rw[en];exact hT,hN,.inr ⟨rfl,rfl,rfl,rfl⟩⟩⟩
    · rw[if_neg (λq=>hN ((YH _).1 q)),if_neg (λq=>hN ((YH _).1 q))]
      exact ⟨_,0,rfl,rfl,by simp,hnil,by omega,.inr ⟨by show ¬(2:Int)=0;omega,rfl,rfl,.inr λz=>hN z.2.2⟩⟩
theorem ZDP {a b:Int} (hb:0<b) (h0:0<=a) (ha2:a<=4000000000000000000):∃ r0 r1,Yz a b 0=some r0/\Yz a b 1=some r1/\0<=r0/\r0<=r1:=by
  have t0:=Int.tmod_nonneg b h0;have d0:=Int.tdiv_nonneg h0 (show 0<=b by omega);have d1:Int.tdiv a b<=a:=by
    rw[Int.tdiv_eq_ediv_of_nonneg h0];exact Int.ediv_le_self b h0
  have ex:∀ m:Int,Yz a b m=some (if m=1/\0<Int.tmod a b then Int.tdiv a b+1 else Int.tdiv a b):=λm=>by
    unfold Yz;rw[Zn (by omega),YI (n:=Int.tdiv a b) (by omega) (by omega),if_neg (by omega)];by_cases h2:(0:Int)<Int.tmod a b
    · rw[if_pos h2]
      by_cases m1:m=1
      · rw[if_pos m1,if_pos ⟨m1,h2⟩,YI (by omega) (by omega)]
      · rw[if_neg m1,if_neg (λq=>m1 q.1)]
    · rw[if_neg h2,if_neg (λq=>h2 q.2)]
  refine ⟨_,_,ex 0,ex 1,?_,?_⟩
  · rw[if_neg (λq=>absurd q.1 (by decide))];exact d0
  · rw[if_neg (λq=>absurd q.1 (by decide))]
    split<;>omega
theorem at_mem {α:Type} {l:List α} {i:Int} {x:α} (h:atI l i=some x):x∈l:=by
  unfold atI at h;split at h
  · exact List.mem_of_getElem? h
  · cases h
theorem ZCq {t:Zx} (hp:∀ v∈Zx.Values t,0<=v) (i k a c:Int):0<=tm t i k a c:=by
  unfold tm;split
  · refine Int.mul_nonneg ?_ (by omega)
    unfold Zja;cases e:atI (Zx.Values t) (i*((Zx.Loads t).length:Int)+k) with
    | none=>exact Int.le_refl _
    | some x=>exact hp x (at_mem e)
  · exact Int.le_refl _
theorem ZDI {t:Zx} (h:Q0 t) (hp:∀ v∈Zx.Values t,0<=v) (s l:Int):∃ r0 r1,ZaD t s l 0=some r0/\ZaD t s l 1=some r1/\0<=r0/\r0<=r1/\r1<=1000000:=by
  obtain ⟨j,a,b,hj,e1,e2⟩:=Zl7 h.1 s;obtain ⟨k,c,d,hk,e3,e4⟩:=Zl7 h.2.1 l;obtain ⟨q,_,hq,_,hq2⟩:=look_eq h s l (.inr rfl:(1:Int)=0\/(1:Int)=1);have j1:=hj.ab;have j2:=hj.a0;have j3:=hj.b0;have j4:=hj.j0;have j5:=hj.jl;have j6:=hj.jb;have k1:=hk.ab;have k2:=hk.a0;have k3:=hk.b0;have k4:=hk.j0;have k5:=hk.jl;have k6:=hk.jb;have p1:=Zf2 (show 0<=a by omega) (show a<=100000 by omega) (show 0<=c by omega) (show c<=100000 by omega);have p2:=Zf2 (show 0<=a by omega) (show a<=100000 by omega) (show 0<=d by omega) (show d<=100000 by omega);have p3:=Zf2 (show 0<=b by omega) (show b<=100000 by omega) (show 0<=c by omega) (show c<=100000 by omega);have p4:=Zf2 (show 0<=b by omega) (show b<=100000 by omega) (show 0<=d by omega) (show d<=100000 by omega);have pp:=Int.mul_pos j2 k2;have q1:=Zo4 h (i:=j) (k:=k) (a:=a) (c:=c) (λ_=>⟨j4,j5⟩) (λ_=>⟨k4,k5⟩) (by omega) (by omega);have q2:=Zo4 h (i:=j) (k:=k+1) (a:=a) (c:=d) (λ_=>⟨j4,j5⟩) (λz=>⟨by omega,k6 z⟩) (by omega) (by omega);have q3:=Zo4 h (i:=j+1) (k:=k) (a:=b) (c:=c) (λz=>⟨by omega,j6 z⟩) (λ_=>⟨k4,k5⟩) (by omega) (by omega);have q4:=Zo4 h (i:=j+1) (k:=k+1) (a:=b) (c:=d) (λz=>⟨by omega,j6 z⟩) (λz=>⟨by omega,k6 z⟩) (by omega) (by omega);have n1:=ZCq hp j k a c;have n2:=ZCq hp j (k+1) a d;have n3:=ZCq hp (j+1) k b c;have n4:=ZCq hp (j+1) (k+1) b d;have eT:(a+b)*(c+d)=a*c+a*d+(b*c+b*d):=by rw[Int.add_mul,Int.mul_add,Int.mul_add]
  have look:∀ m:Int,ZaD t s l m=Yz (Zrd t j a b k c d) ((a+b)*(c+d)) m:=λm=>by
    unfold ZaD;rw[e1,e3,Bq,Bq];have r1:=Zqd h hj hk (v1:=0) (s:=0) (A:=a) (.inl ⟨rfl,rfl⟩) (by omega) (by omega);have r2:=Zqd h hj hk (v1:=1) (s:=tm t j k a c+tm t j (k+1) a d) (A:=b) (.inr ⟨rfl,rfl⟩) (by omega) (by omega);refine (YM (v':=(tm t j k a c+tm t j (k+1) a d,(1:Int),())) ?_).trans ((YM (v':=(Zrd t j a b k c d,(2:Int),())) ?_).trans ?_)
    · show X9 t m (j,a,b) (k,c,d) 0 0=_
      unfold X9;rw[if_pos (by decide)];refine r1.trans ?_;rw[Int.add_zero,Int.zero_add];rfl
    · show X9 t m (j,a,b) (k,c,d) (tm t j k a c+tm t j (k+1) a d) 1=_
      unfold X9;rw[if_pos (by decide)];exact r2
    · have hr:X9 t m (j,a,b) (k,c,d) (Zrd t j a b k c d) 2=(Yz (Zrd t j a b k c d) ((a+b)*(c+d)) m).bind λx=>some (.inr x):=by
        unfold X9;rw[if_neg (by decide)];show (Yz (Zrd t j a b k c d) (Wq (Wq (a+b)*Wq (c+d))) m).bind _=_;rw[YI (n:=a+b) (by omega) (by omega),YI (n:=c+d) (by omega) (by omega),YI (n:=(a+b)*(c+d)) (by omega) (by omega)]
      cases e:Yz (Zrd t j a b k c d) ((a+b)*(c+d)) m with
      | none =>
        rw[e] at hr;rw[Zoi];rw[show X9 t m (j,a,b) (k,c,d) ((Zrd t j a b k c d,(2:Int),()):Int×Int×Unit).1 ((Zrd t j a b k c d,(2:Int),()):Int×Int×Unit).2.1=none from hr]
      | some x =>
        rw[e] at hr;exact YL hr
  obtain ⟨r0,r1,d1,d2,d3,d4⟩:=ZDP (a:=Zrd t j a b k c d) (b:=(a+b)*(c+d)) (by omega) (by unfold Zrd;omega) (by unfold Zrd;omega);rw[look] at hq;rw[d2] at hq;injection hq with hq
  exact ⟨r0,r1,(look 0).trans d1,(look 1).trans d2,d3,d4,by omega⟩
theorem ZDM {s d:Int} (h1:-1000000<=s) (h2:s<=1000000) (h3:0<=d) (h4:d<=301000000) :
    ∃ r0 r1:Int,(∀ m:Int,m=0\/m=1->((ZdE (Wq (Wq (Wq ((1000000:Int)*s)*s)+Wq (Wq ((4:Int)*d)*d))) m).bind λl07Root0=>(Yz l07Root0 (1000:Int) m).bind λl01Div0=>some l01Div0)=some (if m=1 then r1 else r0))/\0<=r0/\r0<=r1:=by
  obtain ⟨b1,b2,b3,e1,e2⟩:=Zxd h1 h2 h3 h4;have es:Wq (Wq (Wq ((1000000:Int)*s)*s)+Wq (Wq ((4:Int)*d)*d))=((4*sqs s d:Nat):Int):=by
    rw[YI (n:=1000000*s) (by omega) (by omega),YI (n:=4*d) (by omega) (by omega),Int.mul_assoc,Int.mul_assoc,e1,e2];unfold sqs;generalize s.natAbs*s.natAbs=x at *;generalize d.natAbs*d.natAbs=y at *;rw[YI (n:=1000000*(x:Int)) (by omega) (by omega),YI (n:=4*(y:Int)) (by omega) (by omega),YI (by omega) (by omega)];omega
  generalize sqs s d=S at b1 es;obtain ⟨R0,hR0,hRl0,hRe0⟩:=Zn8 (S:=4*S) (m:=0) (by omega);obtain ⟨R,hR,hRl,hRe⟩:=Zn8 (S:=4*S) (m:=1) (by omega);have eR:R0=R:=Nat.le_antisymm ((Zw3 hR R0).2 hR0.1) ((Zw3 hR0 R).2 hR.1);subst eR;rw[es];refine ⟨((R0 / 1000:Nat):Int),((upQ (if R0*R0<4*S then R0+1 else R0) 1000:Nat):Int),λm hm=>?_,by omega,?_⟩
  · rw[show (1000:Int)=((1000:Nat):Int) from rfl]
    rcases hm with rfl | rfl
    · rw[hRe0,Bq,if_neg (by decide),Zmo (by omega) (by omega) (by omega) (.inl rfl),Bq,if_neg (by decide),if_neg (by decide)]
    · rw[hRe,Bq,if_pos rfl,Zmo (by omega) (by split<;>omega) (by omega) (.inr rfl),Bq,if_pos rfl,if_pos rfl]
  · unfold upQ
    split<;>split<;>omega
theorem ZDs {b:Zc} (h:XT b) {v:ZG} (hv:VOk b v) {k:Nat} {x:Zm} (hx:(Zr b)[k]?=some x) {s:Int} (s1:-1000000<=s) (s2:s<=1000000) :
    ∃ r0 r1,ZaH b x s 0=some r0/\ZaH b x s 1=some r1/\0<=r0/\r0<=r1/\r1<=1000000:=by
  obtain ⟨y,n,hd⟩:=ZnC h (List.mem_of_getElem? hx);rcases hd.kind with hC | hW
  · obtain ⟨a,t1,t2,c1,c2,c3,c4,c5,c6,c7⟩:=ZlI h hv hd hC
    obtain ⟨r0,r1,q1,q2,q3⟩:=ZDI c6 c7 s (ldF b n);have ex:∀ m r:Int,ZaD t2 s (ldF b n) m=some r->ZaH b x s m=some r:=λm r hr=>by
      unfold ZaH;rw[if_pos hC.1,c2,Bq];show (atI (ZB.Xx a) _).bind _=_;rw[c5,Bq];show (ZaD t2 s (ldF b n) m).bind _=_;rw[hr];rfl
    exact ⟨r0,r1,ex 0 r0 q1,ex 1 r1 q2,q3⟩
  · obtain ⟨hk,w,j,z,e1,e2,e3⟩:=hW
    obtain ⟨ld,hN⟩:=Zzo h e1;obtain ⟨g1,g2,g3⟩:=hN.sink (List.mem_of_getElem? e3);obtain ⟨r0,r1,q1,q2,q3⟩:=ZDM (s:=s) (d:=sdl w ld z) s1 s2 g2 g3;have hne:¬Zm.Kind x=1:=by omega
    have ex:∀ m:Int,m=0\/m=1->ZaH b x s m=some (Min.min 1000000 (if m=1 then r1 else r0)):=λm hm=>by
      unfold ZaH;rw[if_neg hne,ZnA h hd,Bq];unfold Zgx;rw[Zo,e1,Bq,e2,Zo,e3,Bq,ZkW hN,Bq,g1,Bq,q1 m hm,Bq]
    refine ⟨_,_,ex 0 (.inl rfl),ex 1 (.inr rfl),?_,?_,?_⟩
    · rw[if_neg (by decide)];omega
    · rw[if_neg (by decide),if_pos rfl];omega
    · omega
theorem ZDB {b:Zc} (h:XT b) {v:ZG} (hv:VOk b v) {c:Zt} (hc:Vs c) {x:Zm} (hx:x∈Zr b) {s:Zv} (hs:Zef s):Zef (spn b c x s).2:=by
  obtain ⟨k,hk⟩:=List.mem_iff_getElem?.1 hx;obtain ⟨s1,s2,s3⟩:=hs;obtain ⟨d1,_,b1,_⟩:=ZjN h hv hc hk (Zv.Early s) (.inl rfl:(0:Int)=0\/(0:Int)=1);obtain ⟨d2,_,b2,_⟩:=ZjN h hv hc hk (Zv.Late s) (.inl rfl:(0:Int)=0\/(0:Int)=1);obtain ⟨d3,_,b3,_⟩:=ZjN h hv hc hk (Zv.Early s) (.inr rfl:(1:Int)=0\/(1:Int)=1);obtain ⟨d4,_,b4,_⟩:=ZjN h hv hc hk (Zv.Late s) (.inr rfl:(1:Int)=0\/(1:Int)=1);obtain ⟨o1,o3,f1,f3,g1,g2,g3⟩:=ZDs h hv hk (s:=Zv.Early s) (by omega) (by omega);obtain ⟨o2,o4,f2,f4,g4,g5,g6⟩:=ZDs h hv hk (s:=Zv.Late s) (by omega) (by omega);have e:ZcU b c x s=some ((Min.min d1 d2,Max.max d3 d4,()),(Min.min o1 o2,Max.max o3 o4,())):=by
    unfold ZcU;rw[b1,b2,b3,b4,f1,f2,f3,f4];rfl
  unfold spn;rw[e];refine ⟨?_,?_,?_⟩
  · show 0<=Min.min o1 o2;omega
  · show Min.min o1 o2<=Max.max o3 o4;omega
  · show Max.max o3 o4<=1000000;omega
def StO (st:NSt):Prop:=∀ q,st=some q->Zef q.2
theorem ZCK:Zef Jq:=by
  refine ⟨?_,?_,?_⟩<;>decide
theorem ZCF {a s:Zv} (ha:Zef a) (hs:Zef s):Zef (hul a s):=by
  obtain ⟨a1,a2,a3⟩:=ha;obtain ⟨b1,b2,b3⟩:=hs;unfold hul;refine ⟨?_,?_,?_⟩
  · show 0<=Min.min _ _;omega
  · show Min.min _ _<=Max.max _ _;omega
  · show Max.max _ _<=1000000;omega
theorem ZDU {l:List Zv} (h:∀ s∈l,Zef s) (i:Int):Zef ((atI l i).getD Jq):=by
  cases e:atI l i with
  | none=>exact ZCK
  | some s=>exact h s (at_mem e)
theorem ZDL {b:Zc} (h:XT b) {v:ZG} (hv:VOk b v) {c:Zt} (hc:Vs c) {t:Ze} (ht:∀ s∈Ze.Xx t,Zef s) {x:Zm} (hx:x∈Zr b) {st:NSt} (hs:StO st):StO (Zl6 b c t x st):=by
  have ho:=ZDB h hv hc hx (ZDU ht (Zm.From x));unfold Zl6;split
  · intro q hq
    cases st with
    | none =>
      have hq:some (_,(spn b c x ((atI (Ze.Xx t) (Zm.From x)).getD Jq)).2)=some q:=hq;injection hq with hq
      rw[<-hq];exact ho
    | some r =>
      have hq:some (_,hul r.2 (spn b c x ((atI (Ze.Xx t) (Zm.From x)).getD Jq)).2)=some q:=hq;injection hq with hq
      rw[<-hq];exact ZCF (hs r rfl) ho
  · exact hs
theorem ZDw {b:Zc} (h:XT b) {v:ZG} (hv:VOk b v) {c:Zt} (hc:Vs c) {t:Ze} (ht:∀ s∈Ze.Xx t,Zef s) {l:List Zh} (hl:∀ x∈l,Zef (Zh.Xx x)) (live:List Bool) (node:Int):StO (Zcr b c live l t node):=by
  unfold Zcr;refine Zir (I:=StO) _ _ _ ?_ λk x st hx hst=>?_
  · unfold ZfR
    refine Zir (I:=StO) _ _ _ (λq hq=>by cases hq) λk x st hx hst=>?_;split
    · intro q hq
      injection hq with hq
      rw[<-hq];exact hl x (List.mem_of_getElem? hx)
    · exact hst
  · split
    · split
      · exact ZDL h hv hc ht (List.mem_of_getElem? hx) hst
      · exact hst
    · exact hst
theorem ZnI:∀ (A B:List Int),A.Nodup->(∀ x∈A,x∈B)->A.length<=B.length
  | [],_,_,_=>Nat.zero_le _
  | a::A,B,h,hs=>by
    obtain ⟨s,t,rfl⟩:=List.append_of_mem (hs a List.mem_cons_self);have h1:=List.nodup_cons.1 h;have:=ZnI A (s++t) h1.2 (λx hx=>by
      have hx2:=hs x (List.mem_cons_of_mem _ hx);simp only[List.mem_append,List.mem_cons] at hx2 ⊢;rcases hx2 with q | q | q
      · exact .inl q
      · subst q;exact absurd hx h1.1
      · exact .inr q)
    simp only[List.length_append,List.length_cons] at this ⊢;omega
def ZnP (n:Nat):List Int:=(List.range n).map λ(k:Nat)=>(k:Int)
theorem ZlT {n:Nat} {x:Int}:x∈ZnP n<->0<=x/\x<(n:Int):=by
  unfold ZnP;simp only[List.mem_map,List.mem_range];constructor
  · rintro ⟨k,hk,rfl⟩;omega
  · rintro ⟨h0,h1⟩;exact ⟨x.toNat,by omega,by omega⟩
theorem ZqU (n:Nat):(ZnP n).length=n:=by unfold ZnP;simp
theorem Zsj {A:List Int} {n:Nat} (h:A.Nodup) (hl:A.length=n) (hA:∀ x∈A,0<=x/\x<(n:Int)) {u:Int} (h0:0<=u) (h1:u<(n:Int)):u∈A:=by
  refine Classical.byContradiction λq=>?_;have:=ZnI (u::A) (ZnP n) (List.nodup_cons.2 ⟨q,h⟩) (λx hx=>by
    rcases List.mem_cons.1 hx with rfl | hx
    · exact ZlT.2 ⟨h0,h1⟩
    · exact ZlT.2 (hA x hx))
  rw[ZqU] at this;simp only[List.length_cons] at this;omega
theorem ZCE {A B:List Int} (hA:A.Nodup) (hB:B.Nodup) (h:∀ x,x∈A<->x∈B):A.length=B.length :=
  Nat.le_antisymm (ZnI A B hA λx hx=>(h x).1 hx) (ZnI B A hB λx hx=>(h x).2 hx)
theorem ZDz {l:List Int} (h:Inc l):l.Nodup:=by
  rw[List.nodup_iff_pairwise_ne,List.pairwise_iff_getElem];intro i j hi hj hij e;have:=Ziv h hij (List.getElem?_eq_getElem hi) (List.getElem?_eq_getElem hj);omega
def Rdy (live:List Bool) (L:List Zm) (out:List Int) (v:Int):Prop:=∀ (k:Nat) (x:Zm),L[k]?=some x->(live[k]?).getD false=true->Zm.To x=v->Zm.From x∈out
theorem ZwZ {live:List Bool} {L:List Zm} {out:List Int} {v:Int} (h:ZgD live L out v=0):Rdy live L out v:=by
  intro k x hx hl ht;have hk:=(List.getElem?_eq_some_iff.1 hx).1;have:=Zvy live L out v L.length k x (Nat.le_refl _) hk hx;rw[List.take_length,h] at this;unfold cw at this;rw[if_pos hl,if_pos ht] at this;by_cases q:Zm.From x∈out
  · exact q
  · rw[if_neg q] at this;omega
theorem Rdy.mono {live:List Bool} {L:List Zm} {out out':List Int} {v:Int} (h:Rdy live L out v) (hs:∀ x∈out,x∈out'):Rdy live L out' v:=λk x hx hl ht=>hs _ (h k x hx hl ht)
def ZjY (live:List Bool) (L:List Zm):List Int->List Int->Prop
  | _,[]=>True
  | out,v::r=>(0<=v/\v ∉ out/\Rdy live L out v)/\ZjY live L (out++[v]) r
theorem Zp5 {live:List Bool} {L:List Zm} {n:Nat}:∀ (m:Nat) (out:List Int),(Zok live L n m out).2=true->∃ r,(Zok live L n m out).1=out++r/\r.length=m/\ZjY live L out r
  | 0,out,_=>⟨[],by rw[List.append_nil];rfl,rfl,trivial⟩
  | m+1,out,h=>by
    unfold Zok at h ⊢;cases e:nxt live L n out with
    | none=>rw[e] at h;cases h
    | some v =>
      rw[e] at h;obtain ⟨h1,h2,h3⟩:=ZuZ e;obtain ⟨r,r1,r2,r3⟩:=Zp5 m (out++[(v:Int)]) h;refine ⟨(v:Int)::r,?_,by rw[List.length_cons,r2],⟨by omega,h2,ZwZ h3⟩,r3⟩;show (Zok live L n m (out++[(v:Int)])).1=_;rw[r1,List.append_assoc];rfl
theorem ZjY.nodup {live:List Bool} {L:List Zm}:∀ (r out:List Int),ZjY live L out r->out.Nodup->(out++r).Nodup
  | [],out,_,h=>by rw[List.append_nil];exact h
  | v::r,out,h,ho=>by
    have:=ZjY.nodup r (out++[v]) h.2 (by
      rw[List.nodup_append];refine ⟨ho,by simp,λa ha b hb e=>?_⟩;rw[List.mem_singleton.1 hb] at e;exact h.1.2.1 (e▸ha))
    rw[List.append_assoc] at this;exact this
structure ZwA (b:Zc) (br:List Int) (R:List Int):Prop where
  ord:ZjY (Jo b br) (Zr b) [] R
  len:R.length=XF b
  nd:R.Nodup
  inn:∀ u∈R,0<=u/\u<(XF b:Int)
  all:∀ u:Int,0<=u->u<(XF b:Int)->u∈R
theorem Zu1 {b:Zc} {br:List Int} (h:(Zay b br).2=true):ZwA b br (Zay b br).1:=by
  obtain ⟨r,r1,r2,r3⟩:=Zp5 (XF b) [] h;have e:(Zay b br).1=r:=r1;have hi:=(Zp4 b br).2;rw[e] at hi;have hn:r.Nodup:=ZjY.nodup r [] r3 List.nodup_nil;rw[e];exact ⟨r3,r2,hn,hi,λu h0 h1=>Zsj hn r2 hi h0 h1⟩
abbrev Row:=Bool×Zv×Zv
def Zc7 (t:Ze) (k:Int):Row:=((atI (Ze.Reached t) k).getD false,(atI (Ze.ZA t) k).getD Jq,(atI (Ze.Xx t) k).getD Jq)
def Zlr (r:Bool×Zh):Row:=(r.1,Zh.ZA r.2,Zh.Xx r.2)
theorem ZuG {b:Zc} {c:Zt} {t t':Ze} {x:Zm} (h:Zc7 t (Zm.From x)=Zc7 t' (Zm.From x)) (st:NSt):Zl6 b c t x st=Zl6 b c t' x st:=by
  unfold Zc7 at h;have h1:=congrArg Prod.fst h;have h2:=congrArg (λz:Row=>z.2.1) h;have h3:=congrArg (λz:Row=>z.2.2) h;dsimp only at h1 h2 h3;unfold Zl6;rw[h1,h2,h3]
theorem Zt3 {b:Zc} {c:Zt} {live:List Bool} {l:List Zh} {t t':Ze} {node:Int} (h:∀ (k:Nat) (x:Zm),(Zr b)[k]?=some x->(live[k]?).getD false=true->Zm.To x=node->Zc7 t (Zm.From x)=Zc7 t' (Zm.From x)):newV b c live l t node=newV b c live l t' node:=by
  unfold newV Zcr;congr 1;refine Zhg _ _ _ λk x st hx=>?_;rw[Nat.zero_add];split
  · rename_i hl
    split
    · rename_i ht
      exact ZuG (h k x hx hl ht) st
    · rfl
  · rfl
theorem ZjS {b:Zc} {c:Zt} {live:List Bool} {l:List Zh} {t t':Ze} {out:List Int} {node:Int} (hr:Rdy live (Zr b) out node) (h:∀ u∈out,Zc7 t u=Zc7 t' u):newV b c live l t node=newV b c live l t' node :=
  Zt3 λk x hx hl ht=>h _ (hr k x hx hl ht)
theorem Zui {a b:Zv} (h1:Zv.Early a=Zv.Early b) (h2:Zv.Late a=Zv.Late b):a=b:=by
  obtain ⟨a1,a2,⟨⟩⟩:=a;obtain ⟨b1,b2,⟨⟩⟩:=b;have h1:a1=b1:=h1;have h2:a2=b2:=h2;rw[h1,h2]
theorem Zik {a b:Zv}:eqS a b=true<->a=b:=by
  unfold eqS;rw[Bool.and_eq_true,decide_eq_true_eq,decide_eq_true_eq];exact ⟨λh=>Zui h.1 h.2,λh=>by rw[h];exact ⟨rfl,rfl⟩⟩
theorem Ztt {x:Bool} {a s:Zv} {r:Bool×Zh}:Zts x a s r=false<->(x,a,s)=Zlr r:=by
  unfold Zts Zlr;by_cases h1:(x == r.1)=true
  · rw[if_pos h1]
    have h1:x=r.1:=eq_of_beq h1;by_cases h2:eqS a (Zh.ZA r.2)=true
    · rw[if_pos h2]
      have h2:=Zik.1 h2;by_cases h3:eqS s (Zh.Xx r.2)=true
      · rw[h3]
        have h3:=Zik.1 h3;rw[h1,h2,h3];exact ⟨λ_=>rfl,λ_=>rfl⟩
      · rw[show eqS s (Zh.Xx r.2)=false by rw[Bool.not_eq_true] at h3;exact h3]
        refine ⟨λq=>(by cases q),λq=>absurd (Zik.2 (congrArg (λz:Row=>z.2.2) q)) h3⟩
    · rw[if_neg h2]
      exact ⟨λq=>(by cases q),λq=>absurd (Zik.2 (congrArg (λz:Row=>z.2.1) q)) h2⟩
  · rw[if_neg h1]
    exact ⟨λq=>(by cases q),λq=>absurd (beq_iff_eq.2 (congrArg Prod.fst q)) h1⟩
theorem Zma {b:Zc} {c:Zt} {live:List Bool} {l:List Zh} {t:Ze} {k:Nat}:Zib b c live l t k=false<->Zc7 t (k:Int)=Zlr (newV b c live l t (k:Int)):=Ztt
theorem at_set {α:Type} {l:List α} {k:Nat} {x:α} {u:Int}:atI (l.set k x) u=if u=(k:Int) then (atI l u).map (λ_=>x) else atI l u:=by
  unfold atI;by_cases h0:0<=u
  · rw[if_pos h0,if_pos h0,List.getElem?_set]
    by_cases e:u=(k:Int)
    · rw[if_pos e,if_pos (by omega)]
      by_cases hk:k<l.length
      · rw[if_pos hk,List.getElem?_eq_getElem (by omega)];rfl
      · rw[if_neg hk,List.getElem?_eq_none (by omega)];rfl
    · rw[if_neg e,if_neg (by omega)]
  · rw[if_neg h0,if_neg h0,if_neg (by omega)]
theorem ZiL {t:Ze} {k:Nat} {r:Bool×Zh} {u:Int} (h:u≠(k:Int)):Zc7 (Zg4 t k r) u=Zc7 t u:=by
  unfold Zc7 Zg4;show ((atI (List.set (Ze.Reached t) k r.1) u).getD false,(atI (List.set (Ze.ZA t) k _) u).getD Jq,(atI (List.set (Ze.Xx t) k _) u).getD Jq)=_;rw[at_set,at_set,at_set,if_neg h,if_neg h,if_neg h]
theorem ZlZ {t:Ze} {n k:Nat} (ht:Zf9 n t) (hk:k<n) (r:Bool×Zh):Zc7 (Zg4 t k r) (k:Int)=Zlr r:=by
  obtain ⟨x,a,s,hx,ha,hs⟩:=Zk4 ht hk;unfold Zc7 Zg4 Zlr;show ((atI (List.set (Ze.Reached t) k r.1) (k:Int)).getD false,(atI (List.set (Ze.ZA t) k _) (k:Int)).getD Jq,(atI (List.set (Ze.Xx t) k _) (k:Int)).getD Jq)=_;rw[at_set,at_set,at_set,if_pos rfl,if_pos rfl,if_pos rfl,hx,ha,hs];rfl
theorem Zv0 {t t':Ze} {n:Nat} (ht:Zf9 n t) (ht':Zf9 n t') (h:∀ k:Nat,k<n->Zc7 t (k:Int)=Zc7 t' (k:Int)):t=t':=by
  have one:∀ {α:Type} (l l':List α) (z:α),l.length=n->l'.length=n->(∀ k:Nat,k<n->(atI l (k:Int)).getD z=(atI l' (k:Int)).getD z)->l=l':=λl l' z e1 e2 hh=>by
    apply List.ext_getElem?;intro k;by_cases hk:k<n
    · have:=hh k hk
      rw[Zo,Zo,List.getElem?_eq_getElem (by omega),List.getElem?_eq_getElem (by omega)] at this;rw[List.getElem?_eq_getElem (by omega),List.getElem?_eq_getElem (by omega)];exact congrArg some this
    · rw[List.getElem?_eq_none (by omega),List.getElem?_eq_none (by omega)]
  obtain ⟨a,b,c,⟨⟩⟩:=t;obtain ⟨a',b',c',⟨⟩⟩:=t';have e1:a=a':=one a a' false ht.lr ht'.lr λk hk=>congrArg Prod.fst (h k hk);have e2:b=b':=one b b' Jq ht.la ht'.la λk hk=>congrArg (λz:Row=>z.2.1) (h k hk);have e3:c=c':=one c c' Jq ht.ls ht'.ls λk hk=>congrArg (λz:Row=>z.2.2) (h k hk);rw[e1,e2,e3]
def Right (b:Zc) (c:Zt) (live:List Bool) (l:List Zh) (t:Ze):Prop:=∀ u:Int,0<=u->u<(XF b:Int)->Zc7 t u=Zlr (newV b c live l t u)
def Zqj (r:Row):Prop:=r.1=true->JN r.2.1
theorem Zpg {r:Bool×Zh}:Zti r=false<->Zqj (Zlr r):=by
  unfold Zti Zqj Zlr;dsimp only;cases r.1 with
  | true =>
    rw[Bool.true_and];by_cases q:JN (Zh.ZA r.2)
    · rw[ZU q];exact ⟨λ_ _=>q,λ_=>rfl⟩
    · rw[Z4 q];exact ⟨λz=>(by cases z),λz=>absurd (z rfl) q⟩
  | false=>exact ⟨λ_ z=>(by cases z),λ_=>rfl⟩
section
variable {b:Zc} {c:Zt} {live:List Bool} {l:List Zh}
theorem ZlY {t t':Ze}:∀ (r out:List Int),ZjY live (Zr b) out r->(∀ u∈out,Zc7 t u=Zc7 t' u)->(∀ u∈r,Zc7 t u=Zlr (newV b c live l t u))->(∀ u∈r,Zc7 t' u=Zlr (newV b c live l t' u))->∀ u∈r,Zc7 t u=Zc7 t' u
  | [],_,_,_,_,_,u,hu=>by cases hu
  | v::r,out,h,ho,h1,h2,u,hu=>by
    have hv:Zc7 t v=Zc7 t' v:=by
      rw[h1 v List.mem_cons_self,h2 v List.mem_cons_self,ZjS h.1.2.2 ho]
    rcases List.mem_cons.1 hu with rfl | hu
    · exact hv
    · exact ZlY r (out++[v]) h.2 (all_in ho hv) (λu hu=>h1 u (List.mem_cons_of_mem _ hu)) (λu hu=>h2 u (List.mem_cons_of_mem _ hu)) u hu
where
  all_in {t t':Ze} {out:List Int} {v:Int} (ho:∀ u∈out,Zc7 t u=Zc7 t' u) (hv:Zc7 t v=Zc7 t' v):∀ u∈out++[v],Zc7 t u=Zc7 t' u:=λu hu=>by
    rcases List.mem_append.1 hu with q | q
    · exact ho u q
    · rw[List.mem_singleton.1 q];exact hv
theorem ZnV {br:List Int} {t t':Ze} (hO:ZwA b br (Zay b br).1) (ht:Zf9 (XF b) t) (ht':Zf9 (XF b) t') (h:Right b c (Jo b br) l t) (h':Right b c (Jo b br) l t'):t=t':=by
  have:=ZlY (t:=t) (t':=t') (Zay b br).1 [] hO.ord (λu hu=>by cases hu) (λu hu=>h u (hO.inn u hu).1 (hO.inn u hu).2) (λu hu=>h' u (hO.inn u hu).1 (hO.inn u hu).2);exact Zv0 ht ht' λk hk=>this _ (hO.all _ (by omega) (by omega))
noncomputable def ZjT (b:Zc) (c:Zt) (live:List Bool) (l:List Zh):List Int->Ze->Bool×Ze
  | [],t=>(true,t)
  | v::r,t=>match Zti (newV b c live l t v) with
    | true=>(false,noT)
    | false=>ZjT b c live l r (Zg4 t v.toNat (newV b c live l t v))
theorem ZkI {t:Ze} {n:Nat} (hst:∀ (t:Ze) (u:Int),Zf9 n t->StB (Zcr b c live l t u)) (ht:Zf9 n t) (k:Nat) (v:Int):Zf9 n (Zg4 t k (newV b c live l t v)):=Zsx ht _ (Zuc (hst t v ht) _)
theorem Zsy {t:Ze} {n:Nat} (ht:Zf9 n t) {out:List Int} {v:Int} (h0:0<=v) (hvn:v<(n:Int)) (hv:v ∉ out) (hr:Rdy live (Zr b) out v) (hc:∀ u∈out,Rdy live (Zr b) out u) (hR:∀ u∈out,Zc7 t u=Zlr (newV b c live l t u)) :
    let t':=Zg4 t v.toNat (newV b c live l t v)
    (∀ u∈out++[v],Rdy live (Zr b) (out++[v]) u)/\(∀ u∈out++[v],Zc7 t' u=Zlr (newV b c live l t' u))/\(∀ u:Int,u≠v->Zc7 t' u=Zc7 t u)/\Zc7 t' v=Zlr (newV b c live l t v):=by
  have hne:∀ u:Int,u≠v->Zc7 (Zg4 t v.toNat (newV b c live l t v)) u=Zc7 t u:=λu hu=>ZiL (by omega);have heq:Zc7 (Zg4 t v.toNat (newV b c live l t v)) v=Zlr (newV b c live l t v):=by
    have:=ZlZ ht (k:=v.toNat) (by omega) (newV b c live l t v)
    rwa [show ((v.toNat:Nat):Int)=v by omega] at this
  have hout:∀ u∈out,Zc7 (Zg4 t v.toNat (newV b c live l t v)) u=Zc7 t u:=λu hu=>hne u (λe=>hv (e▸hu));refine ⟨λu hu=>?_,λu hu=>?_,hne,heq⟩
  · rcases List.mem_append.1 hu with q | q
    · exact (hc u q).mono λx hx=>List.mem_append.2 (.inl hx)
    · rw[List.mem_singleton.1 q];exact hr.mono λx hx=>List.mem_append.2 (.inl hx)
  · rcases List.mem_append.1 hu with q | q
    · rw[hout u q,hR u q,ZjS (hc u q) hout]
    · rw[List.mem_singleton.1 q,heq,ZjS hr hout]
theorem ZsH {n:Nat} (hst:∀ (t:Ze) (u:Int),Zf9 n t->StB (Zcr b c live l t u)):∀ (r out:List Int) (t:Ze),ZjY live (Zr b) out r->(∀ u∈r,u<(n:Int))->Zf9 n t->(∀ u∈out,Rdy live (Zr b) out u)->(∀ u∈out,Zc7 t u=Zlr (newV b c live l t u)/\Zqj (Zc7 t u))->
    (ZjT b c live l r t).1=true->Zf9 n (ZjT b c live l r t).2/\∀ u∈out++r,Zc7 (ZjT b c live l r t).2 u=Zlr (newV b c live l (ZjT b c live l r t).2 u)/\Zqj (Zc7 (ZjT b c live l r t).2 u)
  | [],out,t,_,_,ht,_,hR,_=>by rw[List.append_nil];exact ⟨ht,hR⟩
  | v::r,out,t,h,hn,ht,hc,hR,hok=>by
    unfold ZjT at hok ⊢;cases hb:Zti (newV b c live l t v) with
    | true=>rw[hb] at hok;cases hok
    | false =>
      rw[hb] at hok;obtain ⟨k1,k2,k3,k4⟩:=Zsy ht h.1.1 (hn v List.mem_cons_self) h.1.2.1 h.1.2.2 hc λu hu=>(hR u hu).1;have:=ZsH hst r (out++[v]) (Zg4 t v.toNat (newV b c live l t v)) h.2 (λu hu=>hn u (List.mem_cons_of_mem _ hu)) (ZkI hst ht _ _) k1 (λu hu=>⟨k2 u hu,by
        rcases List.mem_append.1 hu with q | q
        · rw[k3 u (λe=>h.1.2.1 (e▸q))];exact (hR u q).2
        · rw[List.mem_singleton.1 q,k4];exact Zpg.1 hb⟩) hok
      rw[List.append_assoc] at this;exact this
theorem ZnX {n:Nat} {T:Ze} (hst:∀ (t:Ze) (u:Int),Zf9 n t->StB (Zcr b c live l t u)):∀ (r out:List Int) (t:Ze),ZjY live (Zr b) out r->(∀ u∈r,u<(n:Int))->Zf9 n t->(∀ u∈out,Zc7 t u=Zc7 T u)->(∀ u∈r,Zc7 T u=Zlr (newV b c live l T u)/\Zqj (Zc7 T u))->(ZjT b c live l r t).1=true
  | [],_,_,_,_,_,_,_=>rfl
  | v::r,out,t,h,hn,ht,ho,hT=>by
    have hv:=hT v List.mem_cons_self;have e:newV b c live l t v=newV b c live l T v:=ZjS h.1.2.2 ho;have hvn:=hn v List.mem_cons_self;unfold ZjT;rw[show Zti (newV b c live l t v)=false by rw[e,Zpg,<-hv.1];exact hv.2];refine ZnX hst r (out++[v]) _ h.2 (λu hu=>hn u (List.mem_cons_of_mem _ hu)) (ZkI hst ht _ _) (λu hu=>?_) (λu hu=>hT u (List.mem_cons_of_mem _ hu));rcases List.mem_append.1 hu with q | q
    · rw[ZiL (by intro z;exact h.1.2.1 (by rw[show v=u by have:=h.1.1;omega];exact q))]
      exact ho u q
    · rw[List.mem_singleton.1 q]
      have:=ZlZ ht (k:=v.toNat) (by have:=h.1.1;omega) (newV b c live l t v);rw[show ((v.toNat:Nat):Int)=v by have:=h.1.1;omega] at this;rw[this,e,hv.1]
end
theorem ZDr {b:Zc} {live:List Bool} {dirty:List Int} {ch:List Bool} {v:Int} (h:due b live dirty ch v=true):v∈dirty\/Fed b live ch v (Zr b).length:=(YH _).1 h
theorem ZCu {b:Zc} {live:List Bool} {dirty:List Int} {ch:List Bool} {v:Int} (h:due b live dirty ch v=false):v ∉ dirty/\∀ (k:Nat) (x:Zm),(Zr b)[k]?=some x->(live[k]?).getD false=true->Zm.To x=v->atI ch (Zm.From x)≠some true:=by
  have hn:¬(v∈dirty\/Fed b live ch v (Zr b).length):=λq=>by
    have:=ZU q;unfold due at h;rw[this] at h;cases h
  refine ⟨λq=>hn (.inl q),λk x hx hl ht hc=>hn (.inr ⟨k,x,(List.getElem?_eq_some_iff.1 hx).1,hx,?_,ht,hc⟩)⟩;cases e:live[k]? with
  | none=>rw[e] at hl;cases hl
  | some z=>rw[e] at hl;rw[show z=true from hl]
theorem ZDo {ch:List Bool} {k:Nat} {w:Bool} {u:Int} (h:u≠(k:Int)):atI (ch.set k w) u=atI ch u:=by rw[at_set,if_neg h]
theorem mark_eq {ch:List Bool} {n k:Nat} {w:Bool} (hl:ch.length=n) (hk:k<n):atI (ch.set k w) (k:Int)=some w:=by
  rw[at_set,if_pos rfl,Zo,List.getElem?_eq_getElem (by omega)];rfl
section
variable {b:Zc} {c:Zt} {live:List Bool} {l:List Zh} {dirty:List Int} {t0:Ze} {n:Nat}
structure Mid (b:Zc) (live:List Bool) (t0:Ze) (n:Nat) (out:List Int) (t:Ze) (ch:List Bool):Prop where
  tb:Zf9 n t
  cl:ch.length=n
  clo:∀ u∈out,Rdy live (Zr b) out u
  rest:∀ u:Int,u ∉ out->Zc7 t u=Zc7 t0 u/\atI ch u≠some true
  keep:∀ u∈out,atI ch u≠some true->Zc7 t u=Zc7 t0 u
theorem Mid.skip {out:List Int} {t:Ze} {ch:List Bool} {v:Int} (h:Mid b live t0 n out t ch) (hv:v ∉ out) (hr:Rdy live (Zr b) out v):Mid b live t0 n (out++[v]) t ch where
  tb:=h.tb
  cl:=h.cl
  clo:=λu hu=>by
    rcases List.mem_append.1 hu with q | q
    · exact (h.clo u q).mono λx hx=>List.mem_append.2 (.inl hx)
    · rw[List.mem_singleton.1 q];exact hr.mono λx hx=>List.mem_append.2 (.inl hx)
  rest:=λu hu=>h.rest u λq=>hu (List.mem_append.2 (.inl q))
  keep:=λu hu hc=>by
    rcases List.mem_append.1 hu with q | q
    · exact h.keep u q hc
    · rw[List.mem_singleton.1 q];exact (h.rest v hv).1
theorem Mid.put (hst:∀ (t:Ze) (u:Int),Zf9 n t->StB (Zcr b c live l t u)) {out:List Int} {t:Ze} {ch:List Bool} {v:Int} (h:Mid b live t0 n out t ch) (h0:0<=v) (hn:v<(n:Int)) (hv:v ∉ out) (hr:Rdy live (Zr b) out v):Mid b live t0 n (out++[v]) (Zg4 t v.toNat (newV b c live l t v)) (List.set ch v.toNat (Zib b c live l t v.toNat)) where
  tb:=ZkI hst h.tb _ _
  cl:=by rw[List.length_set];exact h.cl
  clo:=(h.skip hv hr).clo
  rest:=λu hu=>by
    have hne:u≠v:=λe=>hu (List.mem_append.2 (.inr (by rw[e];exact List.mem_singleton.2 rfl)));have:=h.rest u λq=>hu (List.mem_append.2 (.inl q));rw[ZiL (by omega),ZDo (by omega)];exact this
  keep:=λu hu hc=>by
    have ev:((v.toNat:Nat):Int)=v:=by omega
    rcases List.mem_append.1 hu with q | q
    · have hne:u≠v:=λe=>hv (e▸q)
      rw[ZDo (by omega)] at hc;rw[ZiL (by omega)];exact h.keep u q hc
    · have hu:=List.mem_singleton.1 q
      subst hu;have hm:=mark_eq (w:=Zib b c live l t u.toNat) h.cl (show u.toNat<n by omega);rw[ev] at hm;rw[hm] at hc;have hw:Zib b c live l t u.toNat=false:=by
        cases e:Zib b c live l t u.toNat with
        | false=>rfl
        | true=>rw[e] at hc;exact absurd rfl hc
      have:=Zma.1 hw;rw[ev] at this;have e:=ZlZ h.tb (show u.toNat<n by omega) (newV b c live l t u);rw[ev] at e;rw[e,<-this];exact (h.rest u hv).1
theorem Mid.still {out:List Int} {t:Ze} {ch:List Bool} {v:Int} (h:Mid b live t0 n out t ch) (hv:v ∉ out) (hr:Rdy live (Zr b) out v) (hcar:v ∉ dirty->Zc7 t0 v=Zlr (newV b c live l t0 v)) (hd:due b live dirty ch v=false):Zc7 t v=Zc7 t0 v/\Zc7 t v=Zlr (newV b c live l t v):=by
  obtain ⟨d1,d2⟩:=ZCu hd;have e:newV b c live l t v=newV b c live l t0 v:=Zt3 λk x hx hl ht=>h.keep _ (hr k x hx hl ht) (d2 k x hx hl ht);have:=(h.rest v hv).1;exact ⟨this,by rw[this,e];exact hcar d1⟩
theorem ZDp (hst:∀ (t:Ze) (u:Int),Zf9 n t->StB (Zcr b c live l t u)) {C:Int->Prop} (hC1:∀ u∈dirty,C u) (hC2:∀ (k:Nat) (x:Zm),(Zr b)[k]?=some x->live[k]?=some true->C (Zm.From x)->C (Zm.To x)):∀ (r d out:List Int) (t:Ze) (ch:List Bool),ZjY live (Zr b) out r->(∀ u∈r,u<(n:Int))->(∀ u∈r,u ∉ dirty->Zc7 t0 u=Zlr (newV b c live l t0 u)/\Zqj (Zc7 t0 u))->Mid b live t0 n out t ch->(∀ u∈out,Zc7 t u=Zlr (newV b c live l t u)/\Zqj (Zc7 t u))->(∀ u,atI ch u=some true->C u)->
    (ZCo b c live l dirty r d t ch).1=true->Zf9 n (ZCo b c live l dirty r d t ch).2.2/\(∀ u∈out++r,Zc7 (ZCo b c live l dirty r d t ch).2.2 u=Zlr (newV b c live l (ZCo b c live l dirty r d t ch).2.2 u)/\Zqj (Zc7 (ZCo b c live l dirty r d t ch).2.2 u))/\∃ d',(ZCo b c live l dirty r d t ch).2.1=d++d'/\d'.Sublist r/\(∀ u∈r,u∈dirty->u∈d')/\∀ u∈d',C u
  | [],d,out,t,ch,_,_,_,hM,hR,_,_=>by
    rw[List.append_nil];exact ⟨hM.tb,hR,[],by rw[List.append_nil];rfl,List.Sublist.refl _,λu hu=>(by cases hu),λu hu=>(by cases hu)⟩
  | v::r,d,out,t,ch,h,hn,hcar,hM,hR,hch,hok=>by
    have hv0:=h.1.1;have hvn:=hn v List.mem_cons_self;unfold ZCo at hok ⊢;cases hd:due b live dirty ch v with
    | false =>
      rw[hd] at hok;obtain ⟨s1,s2⟩:=hM.still h.1.2.1 h.1.2.2 (λq=>(hcar v List.mem_cons_self q).1) hd;obtain ⟨k1,k2,d',k3,k4,k5,k6⟩:=ZDp hst hC1 hC2 r d (out++[v]) t ch h.2 (λu hu=>hn u (List.mem_cons_of_mem _ hu)) (λu hu=>hcar u (List.mem_cons_of_mem _ hu)) (hM.skip h.1.2.1 h.1.2.2) (λu hu=>by
        rcases List.mem_append.1 hu with q | q
        · exact hR u q
        · rw[List.mem_singleton.1 q]
          exact ⟨s2,by rw[s1];exact (hcar v List.mem_cons_self (ZCu hd).1).2⟩) hch hok
      rw[List.append_assoc] at k2;refine ⟨k1,k2,d',k3,k4.cons v,λu hu hud=>?_,k6⟩;rcases List.mem_cons.1 hu with rfl | hu
      · exact absurd hud (ZCu hd).1
      · exact k5 u hu hud
    | true =>
      rw[hd] at hok;cases hb:Zti (newV b c live l t v) with
      | true=>simp only[hb] at hok;cases hok
      | false =>
        simp only[hb] at hok ⊢;have hCv:C v:=by
          rcases ZDr hd with q | ⟨k,x,_,hx,hl,ht,hc⟩
          · exact hC1 v q
          · rw[<-ht];exact hC2 k x hx hl (hch _ hc)
        obtain ⟨p1,p2,p3,p4⟩:=Zsy hM.tb h.1.1 hvn h.1.2.1 h.1.2.2 hM.clo λu hu=>(hR u hu).1;obtain ⟨k1,k2,d',k3,k4,k5,k6⟩:=ZDp hst hC1 hC2 r (d++[v]) (out++[v]) (Zg4 t v.toNat (newV b c live l t v)) (List.set ch v.toNat (Zib b c live l t v.toNat)) h.2 (λu hu=>hn u (List.mem_cons_of_mem _ hu)) (λu hu=>hcar u (List.mem_cons_of_mem _ hu)) (hM.put hst h.1.1 hvn h.1.2.1 h.1.2.2) (λu hu=>⟨p2 u hu,by
          rcases List.mem_append.1 hu with q | q
          · rw[p3 u (λe=>h.1.2.1 (e▸q))];exact (hR u q).2
          · rw[List.mem_singleton.1 q,p4];exact Zpg.1 hb⟩) (λu hu=>by
          by_cases e:u=v
          · rw[e];exact hCv
          · rw[ZDo (by omega)] at hu
            exact hch u hu) hok
        rw[List.append_assoc] at k2;refine ⟨k1,k2,v::d',by rw[k3,List.append_assoc];rfl,k4.cons_cons v,λu hu hud=>?_,λu hu=>?_⟩
        · rcases List.mem_cons.1 hu with rfl | hu
          · exact List.mem_cons_self
          · exact List.mem_cons_of_mem _ (k5 u hu hud)
        · rcases List.mem_cons.1 hu with rfl | hu
          · exact hCv
          · exact k6 u hu
theorem ZCz (hst:∀ (t:Ze) (u:Int),Zf9 n t->StB (Zcr b c live l t u)) {T:Ze}:∀ (r d out:List Int) (t:Ze) (ch:List Bool),ZjY live (Zr b) out r->(∀ u∈r,u<(n:Int))->(∀ u∈r,u ∉ dirty->Zc7 t0 u=Zlr (newV b c live l t0 u))->Mid b live t0 n out t ch->(∀ u∈out,Zc7 t u=Zc7 T u)->(∀ u∈r,Zc7 T u=Zlr (newV b c live l T u)/\Zqj (Zc7 T u))->
    (ZCo b c live l dirty r d t ch).1=true
  | [],_,_,_,_,_,_,_,_,_,_=>rfl
  | v::r,d,out,t,ch,h,hn,hcar,hM,ho,hT=>by
    have hv:=hT v List.mem_cons_self;have e:newV b c live l t v=newV b c live l T v:=ZjS h.1.2.2 ho;have hvn:=hn v List.mem_cons_self;unfold ZCo;cases hd:due b live dirty ch v with
    | false =>
      obtain ⟨s1,s2⟩:=hM.still h.1.2.1 h.1.2.2 (λq=>hcar v List.mem_cons_self q) hd;refine ZCz hst r d (out++[v]) t ch h.2 (λu hu=>hn u (List.mem_cons_of_mem _ hu)) (λu hu=>hcar u (List.mem_cons_of_mem _ hu)) (hM.skip h.1.2.1 h.1.2.2) (λu hu=>?_) (λu hu=>hT u (List.mem_cons_of_mem _ hu));rcases List.mem_append.1 hu with q | q
      · exact ho u q
      · rw[List.mem_singleton.1 q,s2,e,hv.1]
    | true =>
      have hb:Zti (newV b c live l t v)=false:=by rw[e,Zpg,<-hv.1];exact hv.2
      simp only[hb];refine ZCz hst r (d++[v]) (out++[v]) _ _ h.2 (λu hu=>hn u (List.mem_cons_of_mem _ hu)) (λu hu=>hcar u (List.mem_cons_of_mem _ hu)) (hM.put hst h.1.1 hvn h.1.2.1 h.1.2.2) (λu hu=>?_) (λu hu=>hT u (List.mem_cons_of_mem _ hu));have h0:=h.1.1;rcases List.mem_append.1 hu with q | q
      · rw[ZiL (by intro z;exact h.1.2.1 (by rw[show v=u by omega];exact q))]
        exact ho u q
      · rw[List.mem_singleton.1 q]
        have:=ZlZ hM.tb (k:=v.toNat) (by omega) (newV b c live l t v);rw[show ((v.toNat:Nat):Int)=v by omega] at this;rw[this,e,hv.1]
theorem ZCA {t:Ze} (hst:∀ (t:Ze) (u:Int),Zf9 n t->StB (Zcr b c live l t u)) (ht:Zf9 n t):∀ (r d:List Int) (ch:List Bool),(∀ u∈r,0<=u/\u<(n:Int))->(∀ u∈r,Zc7 t u=Zlr (newV b c live l t u)/\Zqj (Zc7 t u))->(∀ u,atI ch u≠some true)->
    ZCo b c live l dirty r d t ch=(true,d++r.filter (λu=>decide (u∈dirty)),t)
  | [],d,ch,_,_,_=>by rw[List.filter_nil,List.append_nil];rfl
  | v::r,d,ch,hn,hR,hch=>by
    obtain ⟨v0,v1⟩:=hn v List.mem_cons_self;have hv:=hR v List.mem_cons_self;have hdue:due b live dirty ch v=decide (v∈dirty):=by
      rw[Bool.eq_iff_iff,decide_eq_true_eq];constructor
      · intro q
        rcases ZDr q with q | ⟨k,x,_,hx,hl,ht,hc⟩
        · exact q
        · exact absurd hc (hch _)
      · exact λq=>ZU (.inl q)
    unfold ZCo;rw[hdue];by_cases q:v∈dirty
    · rw[decide_eq_true q,List.filter_cons_of_pos (by exact decide_eq_true q)]
      have hb:Zti (newV b c live l t v)=false:=by rw[Zpg,<-hv.1];exact hv.2
      have ev:((v.toNat:Nat):Int)=v:=by omega
      have et:Zg4 t v.toNat (newV b c live l t v)=t:=Zv0 (ZkI hst ht _ _) ht λk hk=>by
        by_cases e:(k:Int)=v
        · have:=ZlZ ht (k:=v.toNat) (by omega) (newV b c live l t v)
          rw[ev] at this;rw[e,this,hv.1]
        · exact ZiL (by omega)
      have hw:Zib b c live l t v.toNat=false:=Zma.2 (by rw[ev];exact hv.1);simp only[hb,et,hw];rw[ZCA hst ht r (d++[v]) _ (λu hu=>hn u (List.mem_cons_of_mem _ hu)) (λu hu=>hR u (List.mem_cons_of_mem _ hu)) (λu hu=>by
        rw[at_set] at hu;split at hu
        · cases e:atI ch u with
          | none=>rw[e] at hu;cases hu
          | some z=>rw[e] at hu;cases hu
        · exact hch u hu),List.append_assoc]
      rfl
    · rw[decide_eq_false q,List.filter_cons_of_neg (by simpa using q)]
      exact ZCA hst ht r d ch (λu hu=>hn u (List.mem_cons_of_mem _ hu)) (λu hu=>hR u (List.mem_cons_of_mem _ hu)) hch
end
theorem Zvt (b:Zc) (c:Zt) (br:List Int) (l:List Zh) (hb:sm YC b) (hc:sm Xf c) (hbr:br.length<=1048576) (hl:l.length<=1048576) :
    (∃ code:Int,(code=1\/code=2\/code=7)/\XE b c br l none=some (none,[],code)/\ZaI b c br l=some ([],code)/\¬Zie b c br l/\(Pre b c br l->code=7))\/
    (∃ v,Zie b c br l/\VOk b v/\XE b c br l none=some (some (v,Jo b br,()),(Zay b br).1,0)/\ZaI b c br l=some ((Zay b br).1,0)):=by
  unfold XE ZaI;rw[Va b hb,Zel b hb,Bq,Bq];by_cases hB:Zga b;rotate_left
  · rw[if_neg (λq=>hB ((YH _).1 q)),if_neg (λq=>hB ((YH _).1 q))]
    exact .inl ⟨1,.inl rfl,rfl,rfl,λq=>hB q.blk.ok,λq=>absurd q.blk.ok hB⟩
  have h:XT b:=⟨hB,hb⟩;rw[if_pos (ZU hB),if_pos (ZU hB),ZdN c hc,Zf0 c,Bq,Bq];by_cases hC:Vs c;rotate_left
  · rw[if_neg (λq=>hC ((YH _).1 q)),if_neg (λq=>hC ((YH _).1 q))]
    exact .inl ⟨1,.inl rfl,rfl,rfl,λq=>hC q.cor,λq=>absurd q.cor hC⟩
  obtain ⟨v,hv1,hv⟩:=Zs9 h;rw[if_pos (ZU hC),if_pos (ZU hC),hv1,Bq,if_pos (by rfl),ZiB h hbr,Zkz h hv hbr,Bq,Bq];by_cases hR:Zj0 ((Zr b).length:Int) br;rotate_left
  · rw[if_neg (λq=>hR ((YH _).1 q)),Xp hR,if_neg (by decide)]
    exact .inl ⟨2,.inr (.inl rfl),rfl,rfl,λq=>hR q.ris,λq=>absurd q.ris hR⟩
  rw[if_pos (ZU hR),XV hR,if_pos rfl,ZeH h v hv.places l hl,ZeV h l hl,Bq,Bq];by_cases hS:ZdQ l (Zbt (2*((places (Zc.Design b)).length:Int)) l);rotate_left
  · rw[if_neg (λq=>hS ((YH _).1 q)),if_neg (λq=>hS ((YH _).1 q))]
    exact .inl ⟨2,.inr (.inl rfl),rfl,rfl,λq=>hS q.src,λq=>absurd q.src hS⟩
  rw[if_pos (ZU hS),if_pos (ZU hS),ZlP h hv hbr hR,Bq,Zp6 h hv br,Zs1 h hbr hR,Bq,Bq];by_cases hO:(Zay b br).2=true;rotate_left
  · rw[if_neg hO,if_neg hO]
    exact .inl ⟨7,.inr (.inr rfl),rfl,rfl,λq=>hO q.ord,λ_=>rfl⟩
  rw[if_pos hO,if_pos hO];exact .inr ⟨v,⟨h,hC,hR,hS,hO⟩,hv,rfl,rfl⟩
section
variable {b:Zc} {c:Zt} {br:List Int} {l:List Zh} {v:ZG}
theorem hst (hA:Zie b c br l) (hv:VOk b v) (t:Ze) (u:Int) (ht:Zf9 (XF b) t):StB (Zcr b c (Jo b br) l t u):=ZqP hA hv ht _ _
theorem set_self {α:Type} {l:List α} {k:Nat} {x:α} (h:l[k]?=some x):l.set k x=l:=by
  apply List.ext_getElem?;intro j;rw[List.getElem?_set];by_cases e:k=j
  · subst e
    rw[if_pos rfl,if_pos (List.getElem?_eq_some_iff.1 h).1,h]
  · rw[if_neg e]
theorem Zt6 {t:Ze} {n k:Nat} (ht:Zf9 n t) (hk:k<n) (hz:Zc7 t (k:Int)=(false,Jq,Jq)) {r:Bool×Zh} (hr:Zlr r=(false,Jq,Jq)):Zg4 t k r=t:=by
  obtain ⟨x,a,s,hx,ha,hs⟩:=Zk4 ht hk;unfold Zc7 at hz;rw[hx,ha,hs] at hz;injection hz with h1 hz
  injection hz with h2 h3
  dsimp only[Option.getD_some] at h1 h2 h3;subst h1 h2 h3;unfold Zlr at hr;injection hr with g1 hr
  injection hr with g2 g3
  rw[Zo] at hx ha hs;obtain ⟨a,b,c,⟨⟩⟩:=t;unfold Zg4;rw[g1,g2,g3];show (List.set a k false,List.set b k Jq,List.set c k Jq,())=(a,b,c,());rw[set_self hx,set_self ha,set_self hs]
theorem Zsh {t:Ze} {live:List Bool} {u:Int} (h:(newV b c live l t u).1=false):Zlr (newV b c live l t u)=(false,Jq,Jq):=by
  unfold newV at h ⊢;cases e:Zcr b c live l t u with
  | none=>rfl
  | some q=>rw[e] at h;cases h
theorem Zvn {r:Bool×Zh} (h:r.1=true):Zti r = !tr (JN (Zh.ZA r.2)):=by
  unfold Zti;rw[h,Bool.true_and]
theorem ZiG (hA:Zie b c br l) (hv:VOk b v) (hl:l.length<=1048576) {ord:List Int} (hol:ord.length<=1000) {c0:List Bool} {c1 c2:List Zv} :
    ∀ (r out:List Int) (k:Nat) (t:Ze),ord.drop k=r->k<=ord.length->ZjY (Jo b br) (Zr b) out r->(∀ u∈r,0<=u/\u<(XF b:Int))->Zf9 (XF b) t->(∀ u:Int,u ∉ out->Zc7 t u=(false,Jq,Jq))->
      Zp (λu=>ZX ((v,Jo b br,()):Ya) c l ord u.1 u.2.1 u.2.2.1 u.2.2.2.1 u.2.2.2.2.1 u.2.2.2.2.2.1 u.2.2.2.2.2.2.1) ((k:Int),c0,c1,c2,Ze.Reached t,Ze.ZA t,Ze.Xx t,())=some ((ZjT b c (Jo b br) l r t).2,(ZjT b c (Jo b br) l r t).1)/\
      Zp (λu=>YX b c (Zr b) (Jo b br) l ord u.1 u.2.1 u.2.2.1 u.2.2.2.1 u.2.2.2.2.1 u.2.2.2.2.2.1 u.2.2.2.2.2.2.1) ((k:Int),c0,c1,c2,Ze.Reached t,Ze.ZA t,Ze.Xx t,())=some ((ZjT b c (Jo b br) l r t).2,(ZjT b c (Jo b br) l r t).1)
  | [],out,k,t,hr,hk,hI,hn,ht,hz=>by
    have hke:k=ord.length:=by
      have:=congrArg List.length hr;rw[List.length_drop,List.length_nil] at this;omega
    subst hke;constructor
    · refine YL ?_
      show ZX ((v,Jo b br,()):Ya) c l ord (ord.length:Int) c0 c1 c2 (Ze.Reached t) (Ze.ZA t) (Ze.Xx t)=_;unfold ZX;rw[if_neg (Int.lt_irrefl _)];rfl
    · refine YL ?_
      show YX b c (Zr b) (Jo b br) l ord (ord.length:Int) c0 c1 c2 (Ze.Reached t) (Ze.ZA t) (Ze.Xx t)=_;unfold YX;rw[if_neg (Int.lt_irrefl _)];rfl
  | node::r,out,k,t,hr,hk,hI,hn,ht,hz=>by
    have h:=hA.blk;have hn1:=ZeL h;have hll:(Jo b br).length=(Zr b).length:=Zfa _ _;have hlen:Len l:=by unfold Len;omega
    have hkl:k<ord.length:=by
      have:=congrArg List.length hr;rw[List.length_drop,List.length_cons] at this;omega
    have hnode:ord[k]?=some node:=by
      have:=congrArg (λz=>z[0]?) hr;simp only[List.getElem?_drop,Nat.add_zero,List.getElem?_cons_zero] at this;exact this
    have hr':ord.drop (k+1)=r:=by
      rw[<-List.tail_drop,hr];rfl
    have hin:=hn node List.mem_cons_self;obtain ⟨j,rfl⟩:∃ j:Nat,node=(j:Int):=⟨node.toNat,by omega⟩;have hj:j<XF b:=by omega
    obtain ⟨x,a,s,hx,ha,hs⟩:=Zk4 ht hj;have e1:=Zi1 h hv hA.cor hll ht hlen (Zu0 hA.src) (j:Int);have e2:=Zi6 h hv hA.cor hll ht hlen (j:Int);rw[show ZnU (j:Int) (Zcr b c (Jo b br) l t (j:Int))=newV b c (Jo b br) l t (j:Int) from rfl] at e1 e2;have hput:=ZkI (hst hA hv) ht j (j:Int);have hzz:∀ u:Int,u ∉ out++[(j:Int)]->Zc7 (Zg4 t j (newV b c (Jo b br) l t (j:Int))) u=(false,Jq,Jq):=λu hu=>by
      rw[ZiL (λz=>hu (List.mem_append.2 (.inr (by rw[z];exact List.mem_singleton.2 rfl))))];exact hz u λq=>hu (List.mem_append.2 (.inl q))
    have ih:=ZiG hA hv hl hol (c0:=c0) (c1:=c1) (c2:=c2) r (out++[(j:Int)]) (k+1) (Zg4 t j (newV b c (Jo b br) l t (j:Int))) hr' hkl hI.2 (λu hu=>hn u (List.mem_cons_of_mem _ hu)) hput hzz;have hnn:=Zsh (b:=b) (c:=c) (l:=l) (t:=t) (live:=Jo b br) (u:=(j:Int));have hself:(newV b c (Jo b br) l t (j:Int)).1=false->Zg4 t j (newV b c (Jo b br) l t (j:Int))=t:=λq=>Zt6 ht hj (hz _ hI.1.2.1) (hnn q);unfold ZjT;rw[Int.toNat_natCast];generalize newV b c (Jo b br) l t (j:Int)=rv at *;by_cases q1:rv.1=true
    · rw[Zvn q1]
      by_cases q2:JN (Zh.ZA rv.2)
      · rw[ZU q2]
        refine ⟨(YM (v':=(((k+1:Nat):Int),c0,c1,c2,Ze.Reached (Zg4 t j rv),Ze.ZA (Zg4 t j rv),Ze.Xx (Zg4 t j rv),())) ?_).trans ih.1,(YM (v':=(((k+1:Nat):Int),c0,c1,c2,Ze.Reached (Zg4 t j rv),Ze.ZA (Zg4 t j rv),Ze.Xx (Zg4 t j rv),())) ?_).trans ih.2⟩
        · show ZX ((v,Jo b br,()):Ya) c l ord (k:Int) c0 c1 c2 (Ze.Reached t) (Ze.ZA t) (Ze.Xx t)=_
          unfold ZX;rw[if_pos (by omega),Zo,hnode,Bq];show (Y1 _ c l t (j:Int)).bind _=_;rw[e1,Bq,if_pos q1,show JB rv.2.2.1=some (tr (JN (Zh.ZA rv.2))) from Zbi _,Bq,if_pos (ZU q2),hx,ha,hs,Bq,Bq,Bq,Y8 (by omega),Int.toNat_natCast];rfl
        · show YX b c (Zr b) (Jo b br) l ord (k:Int) c0 c1 c2 (Ze.Reached t) (Ze.ZA t) (Ze.Xx t)=_
          unfold YX;rw[if_pos (by omega),Zo,hnode,Bq];show (VP b c (Zr b) (Jo b br) l t (j:Int)).bind _=_;rw[e2,Bq,if_pos q1,show JH rv.2.2.1=some (tr (JN (Zh.ZA rv.2))) from Zdr _,Bq,if_pos (ZU q2),hx,ha,hs,Bq,Bq,Bq,Y8 (by omega),Int.toNat_natCast];unfold Zg4;rw[q1]
      · rw[Z4 q2]
        refine ⟨YL ?_,YL ?_⟩
        · show ZX ((v,Jo b br,()):Ya) c l ord (k:Int) c0 c1 c2 (Ze.Reached t) (Ze.ZA t) (Ze.Xx t)=_
          unfold ZX;rw[if_pos (by omega),Zo,hnode,Bq];show (Y1 _ c l t (j:Int)).bind _=_;rw[e1,Bq,if_pos q1,show JB rv.2.2.1=some (tr (JN (Zh.ZA rv.2))) from Zbi _,Bq,if_neg (λz=>q2 ((YH _).1 z))];rfl
        · show YX b c (Zr b) (Jo b br) l ord (k:Int) c0 c1 c2 (Ze.Reached t) (Ze.ZA t) (Ze.Xx t)=_
          unfold YX;rw[if_pos (by omega),Zo,hnode,Bq];show (VP b c (Zr b) (Jo b br) l t (j:Int)).bind _=_;rw[e2,Bq,if_pos q1,show JH rv.2.2.1=some (tr (JN (Zh.ZA rv.2))) from Zdr _,Bq,if_neg (λz=>q2 ((YH _).1 z))];rfl
    · have q1':rv.1=false:=by rw[Bool.not_eq_true] at q1;exact q1
      have hb:Zti rv=false:=by
        unfold Zti;rw[q1',Bool.false_and]
      rw[hb];refine ⟨(YM (v':=(((k+1:Nat):Int),c0,c1,c2,Ze.Reached (Zg4 t j rv),Ze.ZA (Zg4 t j rv),Ze.Xx (Zg4 t j rv),())) ?_).trans ih.1,(YM (v':=(((k+1:Nat):Int),c0,c1,c2,Ze.Reached (Zg4 t j rv),Ze.ZA (Zg4 t j rv),Ze.Xx (Zg4 t j rv),())) ?_).trans ih.2⟩
      · show ZX ((v,Jo b br,()):Ya) c l ord (k:Int) c0 c1 c2 (Ze.Reached t) (Ze.ZA t) (Ze.Xx t)=_
        unfold ZX;rw[if_pos (by omega),Zo,hnode,Bq];show (Y1 _ c l t (j:Int)).bind _=_;rw[e1,Bq,if_neg q1,hx,ha,hs,Bq,Bq,Bq,Y8 (by omega),Int.toNat_natCast];rfl
      · show YX b c (Zr b) (Jo b br) l ord (k:Int) c0 c1 c2 (Ze.Reached t) (Ze.ZA t) (Ze.Xx t)=_
        unfold YX;rw[if_pos (by omega),Zo,hnode,Bq];show (VP b c (Zr b) (Jo b br) l t (j:Int)).bind _=_;rw[e2,Bq,if_neg q1,Y8 (by omega),hself q1']
end
def ZqO (n:Nat):Ze:=(List.replicate n false,List.replicate n Jq,List.replicate n Jq,())
theorem ZhX (n:Nat):Zf9 n (ZqO n):=⟨List.length_replicate,List.length_replicate,List.length_replicate,λs hs=>by
  rw[List.eq_of_mem_replicate hs];exact Zu2⟩
theorem ZpZ (n:Nat) (u:Int):Zc7 (ZqO n) u=(false,Jq,Jq):=by
  have g:∀ {α:Type} (z:α),(atI (List.replicate n z) u).getD z=z:=λz=>by
    unfold atI;split
    · rw[List.getElem?_replicate]
      split<;>rfl
    · rfl
  show (((atI (List.replicate n false) u).getD false,(atI (List.replicate n Jq) u).getD Jq,(atI (List.replicate n Jq) u).getD Jq):Row)=_;rw[g,g]
structure Is (b:Zc) (c:Zt) (br:List Int) (l:List Zh) (t:Ze):Prop where
  asked:Zie b c br l
  tb:Zf9 (XF b) t
  right:Right b c (Jo b br) l t
  good:∀ u:Int,0<=u->u<(XF b:Int)->Zqj (Zc7 t u)
theorem Is.unique {b:Zc} {c:Zt} {br:List Int} {l:List Zh} {t t':Ze} (h:Is b c br l t) (h':Is b c br l t'):t=t' :=
  ZnV (Zu1 h.asked.ord) h.tb h'.tb h.right h'.right
theorem Zsv (b:Zc) (c:Zt) (br:List Int) (l:List Zh) (hb:sm YC b) (hc:sm Xf c) (hbr:br.length<=1048576) (hl:l.length<=1048576) :
    ∃ r:Ze×Int,QG b c br l=some r/\V6 b c br l=some r/\
      ((r.2=0/\Is b c br l r.1)\/(r.1=noT/\(∀ t,¬Is b c br l t)/\(r.2=3/\Zie b c br l\/(r.2=1\/r.2=2\/r.2=7)/\¬Zie b c br l/\(Pre b c br l->r.2=7)))):=by
  unfold QG V6;rcases Zvt b c br l hb hc hbr hl with ⟨code,hne,e1,e2,e3,e4⟩ | ⟨v,hA,hv,e1,e2⟩
  · rw[e1,e2,Bq,Bq,if_neg (by show ¬code=0;omega),if_neg (by show ¬code=0;omega)]
    exact ⟨_,rfl,rfl,.inr ⟨rfl,λt z=>e3 z.asked,.inr ⟨hne,e3,e4⟩⟩⟩
  · have h:=hA.blk
    have hn:=ZeL h;have hO:=Zp4 b br;have hok:=Zu1 hA.ord;have hpl:=YK h.ok.1.few;have en:=nN b;rw[e1,e2,Bq,if_pos rfl,Bq,Bq,if_pos rfl];rw[Vq h,Bq,ZcQ _ _ (XH h) hbr,Bq];have l1:QH ((v,Jo b br,()):Ya) c l (Zay b br).1=some ((ZjT b c (Jo b br) l (Zay b br).1 (ZqO (XF b))).2,(ZjT b c (Jo b br) l (Zay b br).1 (ZqO (XF b))).1):=by
      unfold QH ZbF;rw[show YA (Ya.view ((v,Jo b br,()):Ya))=some (XF b:Int) from ZmL h hv,Bq];rw[Zn (by omega),Zn (by omega),Zn (by omega),Zn (by omega),Zn (by omega),Bq,Int.toNat_natCast];exact (ZiG hA hv hl (ord:=(Zay b br).1) (by omega) (Zay b br).1 [] 0 (ZqO (XF b)) rfl (Nat.zero_le _) hok.ord hok.inn (ZhX _) (λu _=>ZpZ _ u)).1
    have l2:Zet b c (Zr b) (Jo b br) l (Zay b br).1=some ((ZjT b c (Jo b br) l (Zay b br).1 (ZqO (XF b))).2,(ZjT b c (Jo b br) l (Zay b br).1 (ZqO (XF b))).1):=by
      unfold Zet ZfO;rw[Zdz h,Bq];rw[Zn (by omega),Zn (by omega),Zn (by omega),Zn (by omega),Zn (by omega),Bq,Int.toNat_natCast];exact (ZiG hA hv hl (ord:=(Zay b br).1) (by omega) (Zay b br).1 [] 0 (ZqO (XF b)) rfl (Nat.zero_le _) hok.ord hok.inn (ZhX _) (λu _=>ZpZ _ u)).2
    rw[show QH ((v,Jo b br,()):Ya) c l (some ((v,Jo b br,()):Ya),(Zay b br).1,(0:Int)).snd.fst=_ from l1];rw[show Zet b c (Zr b) (ZdA (Zr b).length br) l ((Zay b br).1,(0:Int)).fst=_ from l2];rw[Bq];have k1:=ZsH (b:=b) (c:=c) (live:=Jo b br) (l:=l) (hst hA hv) (Zay b br).1 [] (ZqO (XF b)) hok.ord (λu hu=>(hok.inn u hu).2) (ZhX _) (λu hu=>by cases hu) (λu hu=>by cases hu);have k2:=λT=>ZnX (b:=b) (c:=c) (live:=Jo b br) (l:=l) (T:=T) (hst hA hv) (Zay b br).1 [] (ZqO (XF b)) hok.ord (λu hu=>(hok.inn u hu).2) (ZhX _) (λu hu=>by cases hu);have k3:(ZjT b c (Jo b br) l (Zay b br).1 (ZqO (XF b))).1=false->(ZjT b c (Jo b br) l (Zay b br).1 (ZqO (XF b))).2=noT:=runP_bad _ _;generalize ZjT b c (Jo b br) l (Zay b br).1 (ZqO (XF b))=R at *;cases hR:R.1 with
    | true =>
      obtain ⟨g1,g2⟩:=k1 hR;exact ⟨_,rfl,rfl,.inl ⟨rfl,hA,g1,λu h0 h1=>(g2 u (hok.all u h0 h1)).1,λu h0 h1=>(g2 u (hok.all u h0 h1)).2⟩⟩
    | false =>
      refine ⟨_,rfl,rfl,.inr ⟨rfl,λT hT=>?_,.inl ⟨rfl,hA⟩⟩⟩;have:=k2 T λu hu=>⟨hT.right u (hok.inn u hu).1 (hok.inn u hu).2,hT.good u (hok.inn u hu).1 (hok.inn u hu).2⟩;rw[hR] at this;cases this
where
  runP_bad {b:Zc} {c:Zt} {live:List Bool} {l:List Zh}:∀ (r:List Int) (t:Ze),(ZjT b c live l r t).1=false->(ZjT b c live l r t).2=noT
    | [],t,h=>by cases h
    | v::r,t,h=>by
      unfold ZjT at h ⊢;cases e:Zti (newV b c live l t v) with
      | true=>rfl
      | false =>
        rw[e] at h;exact runP_bad r _ h
end Go.Proofs.YtgjjlgodlhhdoaaGreatDoor
