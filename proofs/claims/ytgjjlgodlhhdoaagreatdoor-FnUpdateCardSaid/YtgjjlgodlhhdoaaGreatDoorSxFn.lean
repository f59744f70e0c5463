/-
  A whole function: its contract out of the verification condition of its body.
-/
import Derived.KernelRfl
import Derived.Test.YtgjjlgodlhhdoaaGreatDoorSxCode
namespace Go.Sx
set_option linter.unusedVariables false
set_option linter.unusedSimpArgs false
def Zog:Nat->List SV->(List SV->Prop)->Prop
 | 0,l,K=>K l
 | n+1,l,K=>Zog n (.tup []::l) K
theorem Zk6:∀ (n:Nat) (l:List SV) (K:List SV->Prop),Zog n l K=K (List.replicate n (.tup [])++l)
 | 0,_,_=>rfl
 | n+1,l,K=>by
  simp only[Zog,Zk6 n];congr 1;rw[List.replicate_succ',List.append_assoc];rfl
def Zub (Δ:Tab):List ResultVar->List SV->List Entry->(List SV->Prop)->Prop
 | [],_,_,K=>K []
 | .tmp t::r,regs,H,K=>ZjA regs t λs=>Zub Δ r regs H λss=>K (s::ss)
 | .cell a T::r,regs,H,K=>ZjA regs a λsa=>Zbq Δ T λti=>ZqG ti sa H λs=>Zub Δ r regs H λss=>K (s::ss)
def Zg1:(l:List Sh)->List SV->List Entry->(Ios l->Prop)->Prop
 | [],_,_,K=>K ()
 | .io e::r,ss,H,K=>match ss with
  | .ptr id 0::ss=>ZeE H id λen=>match en with
   | .box cells=>Zfk H id .gone λH0=>closeAll e cells H0 λd H1=>Zg1 r ss H1 λds=>K (d,ds)
   | _=>False
  | _=>False
 | .back e::r,ss,H,K=>match ss with
  | s::ss=>if s.whole=true then closeAll e s.cells H λd H1=>Zg1 r ss H1 λds=>K (d,ds) else False
  | _=>False
 | .dat _::r,ss,H,K=>match ss with
  | _::ss=>Zg1 r ss H K
  | _=>False
 | .own _::r,ss,H,K=>match ss with
  | _::ss=>Zg1 r ss H K
  | _=>False
def ZxP (Δ:Tab) (C:Ctr) (res:List ResultVar) (ss0 regs:List SV) (H:List Entry) (K:Shs C.rets->Ios C.args->Prop):Prop :=
 Zub Δ res regs H λss=>Zi9 C.rets ss H λrs H1=>Zg1 C.args ss0 H1 λios=>K rs ios
def fnK (Δ:Tab) (Γ:Gam) (A:Ann) (C:Ctr) (fn:Func) (as:Shs C.args) (K:Shs C.rets->Ios C.args->Prop):Prop :=
 match fn.body with
 | none=>False
 | some c=>ZiK C.args as [] λss H=>Zoj ss 0 λn=>Zog (fn.ntmps-n) [] λus=>Zmi ss us λregs =>
  sx Δ Γ A c 0 (λe regs' H'=>match e with
   | .normal=>ZxP Δ C fn.results.toList ss regs' H' K
   | .ret=>ZxP Δ C fn.results.toList ss regs' H' K
   | _=>False) regs H
def ZvZ (tmps:Array Value):ResultVar->Sem Value
 | .tmp t=>pure (tmps.getD t undef)
 | .cell a t=>asAddr (tmps.getD a undef) >>= λp=>loadVar t p
theorem ZmS {P:Program} {Δ:Tab} (hΔ:Δ.ok P) {B:Base} {E:Env} {H:List Entry} (hI:Inv B E H) {regs:List SV} {tmps:Array Value} (hd:ZT E regs tmps.toList):∀ (l:List ResultVar) {K:List SV->Prop} (_:Zub Δ l regs H K),
  ∃ ss us,(l.mapM (ZvZ tmps)).run P E.w=.ok us E.w/\ZT E ss us/\K ss
 | [],K,hk=>⟨[],[],rfl,trivial,hk⟩
 | .tmp t::r,K,hk=>by
  simp only[Zub] at hk;obtain ⟨s,v,hv,hs,hk,_⟩:=Zao _ _ hd hk;obtain ⟨ss,us,h1,h2,h3⟩:=ZmS hΔ hI hd r hk;have hv':tmps.getD t undef=v:=by
   have:tmps[t]?=some v:=by simpa using hv
   simp[this]
  refine ⟨s::ss,v::us,?_,⟨hs,h2⟩,h3⟩;rw[List.mapM_cons,Sem.run_bind,ZvZ,hv',Sem.run_pure,Result.andThen_ok,Sem.run_bind,h1];rfl
 | .cell a T::r,K,hk=>by
  simp only[Zub] at hk;obtain ⟨sa,va,hv,hs,hk,_⟩:=Zao _ _ hd hk;obtain ⟨ti,ht,hk⟩:=YV Δ hΔ hk;obtain ⟨u,s,h0,hu,hk⟩:=ZpK hI ht hs hk;have h0:=h0.here;obtain ⟨ss,us,h1,h2,h3⟩:=ZmS hΔ hI hd r hk;have hv':tmps.getD a undef=va:=by
   have:tmps[a]?=some va:=by simpa using hv
   simp[this]
  have hptr:∃ p,va=.pointer (some p):=by
   cases va with
   | pointer p=>cases p with
    | some p=>exact ⟨p,rfl⟩
    | none=>simp[Instr.loadAt,Instr.sureAddr] at h0
   | _=>simp[Instr.loadAt,Instr.sureAddr] at h0
  obtain ⟨p,rfl⟩:=hptr;have h0':(loadVar T p).run P E.w=.ok u E.w:=by simpa[Instr.loadAt,Instr.sureAddr] using h0
  refine ⟨s::ss,u::us,?_,⟨hu,h2⟩,h3⟩;rw[List.mapM_cons,Sem.run_bind,ZvZ,hv',asAddr,pure_bind,h0',Result.andThen_ok,Sem.run_bind,h1];rfl
theorem ZqY (fn:Func) (tmps:Array Value):results fn tmps=(fn.results.mapM (ZvZ tmps) >>= λvs=>pure (if h:vs.size=1 then vs[0] else .tuple vs)):=by
 have e:(λx=>match x with
  | ResultVar.tmp t=>pure (tmps.getD t undef)
  | ResultVar.cell a t=>do loadVar t (<-asAddr (tmps.getD a undef)):ResultVar->Sem Value)=ZvZ tmps:=by
  funext x;cases x<;>rfl
 rw[<-e];rfl
theorem ZkR {P:Program} {fn:Func} {tmps:Array Value} {us:List Value} {w:World} (h:(fn.results.toList.mapM (ZvZ tmps)).run P w=.ok us w) :
  ∃ v,(results fn tmps).run P w=.ok v w/\retv us v:=by
 have h':(fn.results.mapM (ZvZ tmps)).run P w=.ok us.toArray w:=by
  rw[<-Array.toArray_toList (xs:=fn.results),List.mapM_toArray];simp only[Sem.run_map,h,Result.andThen_ok]
 rw[ZqY,Sem.run_bind,h',Result.andThen_ok];unfold retv
 match us with
 | [u]=>exact ⟨u,rfl,rfl⟩
 | []=>exact ⟨_,rfl,rfl⟩
 | a::b::r=>exact ⟨.tuple (a::b::r).toArray,by simp,rfl⟩
theorem Zgm {B:Base}:∀ (l:List Sh) (ss:List SV) {E:Env} {H:List Entry} (_:Inv B E H) {vs:List Value} (_:ZT E ss vs) (_:∃ (S:Nat->Prop) (w:World) (as:Shs l) (fp:List Nat),Zcw S w l as vs fp) {gs:List Nat} (_:Loose B E H gs) {K:Ios l->Prop} (_:Zg1 l ss H K),
  ∃ E1 H1 ios fio,Frz E H E1 H1/\Inv B E1 H1/\Zen E1.S E1.w l ios vs fio/\K ios/\Loose B E1 H1 (fio++gs)
 | [],ss,E,H,hI,vs,hd,hf,gs,hL,K,hk=>⟨E,H,(),[],Frz.refl E H,hI,rfl,hk,hL⟩
 | .io e::r,ss,E,H,hI,vs,hd,⟨S,w,as,fp,v,vr,f0,fr,ev,_,hsh,hrest⟩,gs,hL,K,hk=>by
  simp only[Zg1] at hk;subst ev;split at hk
  ·rename_i id ss
   simp only[ZT] at hd;obtain ⟨en,he,hk⟩:=Yy H hk;split at hk
   ·rename_i cells
    rw[YU] at hk;have hv:=hd.1;simp only[den] at hv;obtain ⟨b,hb0,hv⟩:=hv;obtain ⟨b',cs0,T,e1,e2,e3⟩:=hI.ent id _ he;have:=hb0.symm.trans e1;simp at this;subst this;have t1:Frz E H E (H.set id .gone):=Frz.one he rfl hb0 rfl (Env.le.refl E) (λb hb=>.inl hb);have t3:=hL.take hI he rfl hb0 (f:=[b]) (by simp) (λg hg=>by
     simp at hg;subst hg;rfl)
    obtain ⟨E1,H1,d,f,hf1,hI1,hr,hk,hL1,hT,_⟩:=Qi (hI.drop id) e3 t3 hk;obtain ⟨E2,H2,ios,fio,hf2,hI2,hio,hk,hL2⟩:=Zgm r ss hI1 (ZE hf1.le _ _ hd.2) ⟨S,w,as.2,fr,hrest⟩ hL1 hk;refine ⟨E2,H2,(d,ios),(b::f)++fio,(t1.trans hf1).trans hf2,hI2,⟨v,vr,b::f,fio,rfl,rfl,⟨b,cs0,T,f,hv,by rw[hf2.w,hf1.w];exact e2,?_,rfl⟩,hio⟩,hk,hL2.perm ?_⟩
    ·exact Ye hf2.le.S hf2.le.w e _ _ _ (λg _=>by rw[hf2.w]) hr
    ·simp only[List.cons_append,List.nil_append,List.append_assoc]
     rw[<-List.append_assoc];refine List.perm_middle.trans (List.Perm.cons b ?_);rw[<-List.append_assoc];exact List.perm_append_comm.append_right gs
   ·exact hk.elim
  ·exact hk.elim
 | .back e::r,ss,E,H,hI,vs,hd,⟨S,w,as,fp,v,vr,f0,fr,ev,_,hsh,hrest⟩,gs,hL,K,hk=>by
  simp only[Zg1] at hk;subst ev;split at hk
  ·rename_i s ss
   simp only[ZT] at hd;split at hk
   ·rename_i hw
    obtain ⟨E1,H1,d,f,hf1,hI1,hr,hk,hL1,hT,_⟩:=Qi hI (Vt hd.1 hw) hL hk;obtain ⟨E2,H2,ios,fio,hf2,hI2,hio,hk,hL2⟩:=Zgm r ss hI1 (ZE hf1.le _ _ hd.2) ⟨S,w,as.2,fr,hrest⟩ hL1 hk;refine ⟨E2,H2,(d,ios),f++fio,hf1.trans hf2,hI2,⟨v,vr,f,fio,rfl,rfl,⟨hsh.1,?_⟩,hio⟩,hk,hL2.perm ?_⟩
    ·exact Ye hf2.le.S hf2.le.w e _ _ _ (λg _=>by rw[hf2.w]) hr
    ·rw[<-List.append_assoc]
     exact List.perm_append_comm.append_right gs
   ·exact hk.elim
  ·exact hk.elim
 | .dat _::r,ss,E,H,hI,vs,hd,⟨S,w,as,fp,v,vr,f0,fr,ev,_,hsh,hrest⟩,gs,hL,K,hk=>by
  simp only[Zg1] at hk;subst ev;split at hk
  ·simp only[ZT] at hd
   obtain ⟨E2,H2,ios,fio,hf2,hI2,hio,hk,hL2⟩:=Zgm r _ hI hd.2 ⟨S,w,as.2,fr,hrest⟩ hL hk;exact ⟨E2,H2,ios,fio,hf2,hI2,⟨v,vr,rfl,hio⟩,hk,hL2⟩
  ·exact hk.elim
 | .own _::r,ss,E,H,hI,vs,hd,⟨S,w,as,fp,v,vr,f0,fr,ev,_,hsh,hrest⟩,gs,hL,K,hk=>by
  simp only[Zg1] at hk;subst ev;split at hk
  ·simp only[ZT] at hd
   obtain ⟨E2,H2,ios,fio,hf2,hI2,hio,hk,hL2⟩:=Zgm r _ hI hd.2 ⟨S,w,as.2,fr,hrest⟩ hL hk;exact ⟨E2,H2,ios,fio,hf2,hI2,⟨v,vr,rfl,hio⟩,hk,hL2⟩
  ·exact hk.elim
theorem Zh8 {w:World} {S:Nat->Prop}:∀ (l:List Sh) (d:Shs l) (vs:List Value) (fp:List Nat),Zcw S w l d vs fp->l.length=vs.length
 | [],_,_,_,h=>by rw[h.1];rfl
 | _::r,d,_,_,⟨v,vr,f,fr,e,_,_,h⟩=>by subst e;simp[Zh8 r d.2 vr fr h]
theorem Inv.more {B:Base} {E:Env} {H:List Entry} (h:Inv B E H) (hB:∀ b,B.S b->b<B.w.heap.size/\¬B.io b):Inv B ⟨λb=>E.S b\/B.S b,E.w,E.ids⟩ H/\E.le ⟨λb=>E.S b\/B.S b,E.w,E.ids⟩:=by
 have hle:E.le ⟨λb=>E.S b\/B.S b,E.w,E.ids⟩:=⟨λ_ h=>.inl h,λ_ _=>rfl,λ_ _ h=>h⟩;exact ⟨
  {keeps:=h.keeps
   Slt:=λb hb=>hb.elim (h.Slt b) (λhb=>Nat.lt_of_lt_of_le (hB b hb).1 h.keeps.size)
   Sold:=λb hb hlt=>hb.elim (λhb=>h.Sold b hb hlt) .inl
   len:=h.len,pin:=h.pin
   ent:=λi e hi=>Zcc hle i e (λ_ _ _ _ _=>rfl) (h.ent i e hi)
   free:=λi e v g hi hl hv hb=>by
    obtain ⟨a,b,c⟩:=h.free i e v g hi hl hv hb;refine ⟨λhs=>hs.elim a (λhs=>?_),b,c⟩;obtain ⟨h1,h2⟩:=hB g hs;rcases b with b | b
    ·omega
    ·exact h2 b
   sep:=h.sep},hle⟩
theorem Zg {P:Program} {Δ:Tab} (hΔ:Δ.ok P) {Γ:Gam} (hΓ:Γ.ok P) (hm:P.follows .mixedOrders=true) (A:Ann) {f:FuncId} {fn:Func} (hf:P.funcs[f]?=some fn) (hname:(fn.name == "runtime.NumGoroutine")=false:=by kernel_rfl) (hbody:fn.body.isNone=false:=by kernel_rfl) {C:Ctr}
  (hvc:∀ (as:Shs C.args) (K:Shs C.rets->Ios C.args->Prop),C.tr as K->fnK Δ Γ A C fn as K):Za P f C:=by
 refine ⟨⟨fn,hf,hname,hbody⟩,?_⟩;intro w S vs as fp K hSlt has hnd hpriv hK;have hk:=hvc as K hK;unfold fnK at hk;split at hk
 ·exact hk.elim
 ·rename_i c hbody'
  let B0:Base:=⟨w,S,λb=>b∈fp,[]⟩
  have hI0:Inv B0 ⟨S,w,[]⟩ [] :=
   {keeps:=⟨rfl,rfl,rfl,Nat.le_refl _,λ_ _ _=>rfl⟩
    Slt:=hSlt
    Sold:=λb hb _=>.inl hb
    len:=rfl
    pin:=λ_ _ h=>h
    ent:=λi e hi=>by simp at hi
    free:=λi e v g hi=>by simp at hi
    sep:=λi j ei ej vi vj g hi=>by simp at hi}
  have hL0:Loose B0 ⟨S,w,[]⟩ [] (fp++[]):=by
   rw[List.append_nil];exact ⟨hnd,λg hg=>⟨(hpriv g hg).1,.inr hg,(hpriv g hg).2⟩,λg _ j e v hj=>by simp at hj⟩
  obtain ⟨E1,H1,ss,hw1,hS1,hI1,hle1,hd1,hk⟩:=ZgK (E:=⟨S,w,[]⟩) C.args as vs hI0 has hL0 hk;rw[Zax,Zk6,Ju,Nat.zero_add,List.append_nil] at hk;have hl:=Yl _ _ hd1
  let B:Base:=⟨w,S,λb=>b∈fp,E1.ids⟩
  have hI:Inv B E1 H1 :=
   {keeps:=⟨hI1.keeps.os,hI1.keeps.tape,hI1.keeps.output,hI1.keeps.size,hI1.keeps.block⟩
    Slt:=hI1.Slt,Sold:=hI1.Sold,len:=hI1.len,pin:=λ_ _ h=>h,ent:=hI1.ent,free:=hI1.free,sep:=hI1.sep}
  refine calls_of_wp hf hbody' ?_;have hdens:ZT E1 (ss++List.replicate (fn.ntmps-ss.length) (.tup [])) (vs.toArray++Array.replicate (fn.ntmps-vs.toArray.size) undef).toList:=by
   rw[Array.toList_append,Array.toList_replicate,List.toList_toArray,List.size_toArray,hl];refine Jw _ _ hd1 _ _ ?_;have:∀ n,ZT E1 (List.replicate n (.tup [])) (List.replicate n undef):=by
    intro n;induction n with
    | zero=>trivial
    | succ n ih=>exact ⟨by simp only[den];exact ⟨[],rfl,trivial⟩,ih⟩
   exact this _
  rw[<-show E1.w=w from hw1];refine Zly hΔ hΓ A hm c 0 _ hk (B:=B) ⟨_,rfl,hI,hdens,rfl⟩ _ ?_;intro e regs' H' a' w' hq hc';obtain ⟨E2,hw2,hI2,hd2,hdef2⟩:=hc';subst hw2;rw[show E1.w=w from hw1];have fin:ZxP Δ C fn.results.toList ss regs' H' K->bodyPost P fn (λe w'=>∃ v us rs ios S' fr fio,e=.returned v/\retv us v/\K rs ios/\Keeps ⟨w,S,λb=>b∈fp,[]⟩ w'/\(∀ b,S b->S' b)/\
    (∀ b,S' b->b<w'.heap.size/\(b<w.heap.size->S b\/b∈fp))/\Zcw S' w' C.rets rs us fr/\Zen S' w' C.args ios vs fio/\
    (fio++fr).Nodup/\∀ g∈fio++fr,¬S' g/\g<w'.heap.size/\(w.heap.size<=g\/g∈fp)) .ret a' E2.w:=by
   intro hq;unfold ZxP at hq;have hBS:∀ b,B.S b->b<B.w.heap.size/\¬B.io b:=λb hb=>⟨hSlt b hb,λhio=>(hpriv b hio).1 hb⟩;obtain ⟨hI3,hle3⟩:=hI2.more hBS;obtain ⟨ss',us,hrun,hds,hq⟩:=ZmS hΔ hI3 (ZE hle3 _ _ hd2) _ hq;have hle0:E1.le ⟨λb=>E2.S b\/B.S b,E2.w,E2.ids⟩:=by
    refine ⟨λb hb=>.inr (by rw[hS1] at hb;exact hb),λb hb=>?_,λi v hv=>hI2.pin i v hv⟩;have hb':S b:=by rw[hS1] at hb;exact hb
    rw[hw1];exact hI2.keeps.block b (hSlt b hb') (λhio=>(hpriv b hio).1 hb')
   have hss:=ZE hle0 _ _ hd1;obtain ⟨E4,H4,rs,fr,hf4,hI4,hrs,hq,hL4,_⟩:=ZgB C.rets ss' hI3 hds (Loose.none _ _ _) hq;obtain ⟨E5,H5,ios,fio,hf5,hI5,hio,hq,hL5⟩:=Zgm C.args ss hI4 (ZE hf4.le _ _ hss) ⟨S,w,as,fp,has⟩ hL4 hq;rw[List.append_nil] at hL5;obtain ⟨v,hv,hret⟩:=ZkR hrun;have hww:E5.w=E2.w:=by rw[hf5.w,hf4.w]
   refine bodyPost_ret hv hdef2 ⟨v,us,rs,ios,E5.S,fr,fio,rfl,hret,hq,?_,λb hb=>hf5.le.S b (hf4.le.S b (.inr hb)),?_,?_,?_,hL5.nodup,?_⟩
   ·have:=hI2.keeps
    exact ⟨this.os,this.tape,this.output,this.size,this.block⟩
   ·intro b hb
    exact ⟨by rw[<-hww];exact hI5.Slt b hb,λhlt=>hI5.Sold b hb hlt⟩
   ·show Zcw E5.S E2.w C.rets rs us fr
    rw[<-hww];exact Zn0 hf5.le _ _ _ _ (λg _=>by rw[hf5.w]) hrs
   ·show Zen E5.S E2.w C.args ios vs fio
    rw[<-hww];exact hio
   ·intro g hg
    obtain ⟨a1,a2,a3⟩:=hL5.free g hg;exact ⟨a1,by rw[<-hww];exact a3,a2⟩
  cases e with
  | normal=>exact fin hq
  | ret=>exact fin hq
  | _=>exact hq.elim
def Zzi (Δ:Tab) (Γ:Gam) (A:Ann) (fn:Func) (ss:List SV) (H:List Entry) (K:SV->List Entry->Prop):Prop :=
 match fn.body with
 | none=>False
 | some c=>Zoj ss 0 λn=>Zog (fn.ntmps-n) [] λus=>Zmi ss us λregs =>
  sx Δ Γ A c 0 (λe regs' H'=>match e with
   | .normal=>Zub Δ fn.results.toList regs' H' λss'=>ZnJ ss' λs=>K s H'
   | .ret=>Zub Δ fn.results.toList regs' H' λss'=>ZnJ ss' λs=>K s H'
   | _=>False) regs H
def Zzh (Δ:Tab) (Γ:Gam) (A:Ann) (fn:Func):Cal:=⟨Zzi Δ Γ A fn,false,none⟩
theorem ZzM {P:Program} {Δ:Tab} (hΔ:Δ.ok P) {Γ:Gam} (hΓ:Γ.ok P) (hm:P.follows .mixedOrders=true) (A:Ann) {f:FuncId} {fn:Func} (hf:P.funcs[f]?=some fn) (hname:(fn.name == "runtime.NumGoroutine")=false) (hbody:fn.body.isNone=false):Zre P f (Zzh Δ Γ A fn):=by
 refine ⟨⟨fn,hf,hname,hbody⟩,?_⟩;intro B E H hI ss vs hd K hk;have hk:Zzi Δ Γ A fn ss H K:=hk;unfold Zzi at hk;split at hk
 ·exact hk.elim
 ·rename_i c hbody'
  rw[Zax,Zk6,Ju,Nat.zero_add,List.append_nil] at hk;have hl:=Yl _ _ hd
  let B1:Base:=⟨E.w,E.S,λb=>¬E.S b/\(B.w.heap.size<=b\/B.io b),E.ids⟩
  have hI1:Inv B1 E H :=
   {keeps:=⟨rfl,rfl,rfl,Nat.le_refl _,λ_ _ _=>rfl⟩
    Slt:=hI.Slt,Sold:=λb hb _=>.inl hb,len:=hI.len,pin:=λ_ _ h=>h,ent:=hI.ent
    free:=λi e v g hi hl hv hb=>by
     obtain ⟨a,b,c⟩:=hI.free i e v g hi hl hv hb;exact ⟨a,.inr ⟨a,b⟩,c⟩
    sep:=hI.sep}
  refine calls_of_wp hf hbody' ?_;have hdens:ZT E (ss++List.replicate (fn.ntmps-ss.length) (.tup [])) (vs.toArray++Array.replicate (fn.ntmps-vs.toArray.size) undef).toList:=by
   rw[Array.toList_append,Array.toList_replicate,List.toList_toArray,List.size_toArray,hl];refine Jw _ _ hd _ _ ?_;have:∀ n,ZT E (List.replicate n (.tup [])) (List.replicate n undef):=by
    intro n;induction n with
    | zero=>trivial
    | succ n ih=>exact ⟨by simp only[den];exact ⟨[],rfl,trivial⟩,ih⟩
   exact this _
  refine Zly hΔ hΓ A hm c 0 _ hk (B:=B1) ⟨_,rfl,hI1,hdens,rfl⟩ _ ?_;intro e regs' H' a' w' hq hc';obtain ⟨E2,hw2,hI2,hd2,hdef2⟩:=hc';subst hw2;have hBS:∀ b,B1.S b->b<B1.w.heap.size/\¬B1.io b:=λb hb=>⟨hI.Slt b hb,λhio=>hio.1 hb⟩;obtain ⟨hI3,hle3⟩:=hI2.more hBS;have hstand:∀ b,b<E.w.heap.size->¬(¬E.S b/\(B.w.heap.size<=b\/B.io b))->E2.w.heap[b]?=E.w.heap[b]?:=λb h1 h2=>hI2.keeps.block b h1 h2;have hsz:E.w.heap.size<=E2.w.heap.size:=hI2.keeps.size;have hB0:=hI.keeps.size;have hIB:Inv B ⟨λb=>E2.S b\/B1.S b,E2.w,E2.ids⟩ H' :=
   {keeps:=⟨hI2.keeps.os.trans hI.keeps.os,hI2.keeps.tape.trans hI.keeps.tape,hI2.keeps.output.trans hI.keeps.output,Nat.le_trans hB0 hsz,λb hb hio =>
     (hstand b (Nat.lt_of_lt_of_le hb hB0) (λh=>by
      rcases h.2 with h2 | h2
      ·omega
      ·exact hio h2)).trans (hI.keeps.block b hb hio)⟩
    Slt:=hI3.Slt
    Sold:=λb hb hlt=>by
     rcases hb with hb | hb
     ·rcases hI2.Sold b hb (Nat.lt_of_lt_of_le hlt hB0) with h | h
      ·exact hI.Sold b h hlt
      ·rcases h.2 with h2 | h2
       ·omega
       ·exact .inr h2
     ·exact hI.Sold b hb hlt
    len:=hI2.len
    pin:=λi v hv=>hI2.pin i v (hI.pin i v hv)
    ent:=hI3.ent
    free:=λi e v g hi hl hv hb=>by
     obtain ⟨a,b,c⟩:=hI3.free i e v g hi hl hv hb;refine ⟨a,?_,c⟩;rcases b with b | b
     ·exact .inl (Nat.le_trans hB0 b)
     ·exact b.2
    sep:=hI2.sep}
  have hle:E.le ⟨λb=>E2.S b\/B1.S b,E2.w,E2.ids⟩:=⟨λb hb=>.inr hb,λb hb=>hstand b (hI.Slt b hb) (λh=>h.1 hb),λi v hv=>hI2.pin i v hv⟩;have fin:(Zub Δ fn.results.toList regs' H' λss'=>ZnJ ss' λs=>K s H')->bodyPost P fn (λe w'=>∃ v E' H' s,e=.returned v/\E'.w=w'/\Inv B E' H'/\E.le E'/\den E' s v/\K s H'/\((Zzh Δ Γ A fn).dat=true->Grow E.w w')/\(∀ m,(Zzh Δ Γ A fn).io=some m->∀ b,b<E.w.heap.size->(∀ v∈pick m vs,Yh v≠some b)->w'.heap[b]?=E.w.heap[b]?)) .ret a' E2.w:=by
   intro hq;obtain ⟨ss',us,hrun,hds,hq⟩:=ZmS hΔ hIB (ZE hle3 _ _ hd2) _ hq;obtain ⟨v,hv,hret⟩:=ZkR hrun;obtain ⟨s,hs,hq⟩:=Zp2 hds hret hq;exact bodyPost_ret hv hdef2 ⟨v,⟨λb=>E2.S b\/B1.S b,E2.w,E2.ids⟩,H',s,rfl,rfl,hIB,hle,hs,hq,(λh=>by cases h),(λm h=>by cases h)⟩
  cases e with
  | normal=>exact fin hq
  | ret=>exact fin hq
  | _=>exact hq.elim
end Go.Sx
