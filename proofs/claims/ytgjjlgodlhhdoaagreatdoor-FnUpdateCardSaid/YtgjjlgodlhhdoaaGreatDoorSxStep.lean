/-
  One operation of a region, calls among them; the operations of a region one after the other.
-/
import Derived.Test.YtgjjlgodlhhdoaaGreatDoorSxLoop
namespace Go.Sx
set_option linter.unusedVariables false
set_option linter.unusedSimpArgs false
structure Cal where
 run:List SV->List Entry->(SV->List Entry->Prop)->Prop
 dat:Bool
 io:Option (List Bool) -- which arguments are variables,if nothing else is handed over
def Zre (P:Program) (f:FuncId) (C:Cal):Prop:=Zmc P f/\
 ∀ {B:Base} {E:Env} {H:List Entry},Inv B E H->∀ {ss:List SV} {vs:List Value},ZT E ss vs->∀ {K:SV->List Entry->Prop},C.run ss H K->
  Calls P f vs.toArray E.w λe w'=>∃ v E' H' s,e=.returned v/\E'.w=w'/\Inv B E' H'/\E.le E'/\den E' s v/\K s H'/\(C.dat=true->Grow E.w w')/\(∀ m,C.io=some m->∀ b,b<E.w.heap.size->(∀ v∈pick m vs,Yh v≠some b)->w'.heap[b]?=E.w.heap[b]?)
def Ctr.cal (C:Ctr):Cal:=⟨Zvs C,Zcb C.args,match ZfZ C.args with
 | true=>some (ZhV C.args)
 | false=>none⟩
theorem Ctr.ZwG {P:Program} {f:FuncId} {C:Ctr} (h:Za P f C):Zre P f C.cal:=⟨h.1,λhI _ _ hd _ hk=>(Ztq hI h hd hk).mono λe w' ⟨v,E',H',s,a1,a2,a3,a4,a5,a6,a7,a8⟩=>⟨v,E',H',s,a1,a2,a3,a4,a5,a6,a7,λm hm=>by
 simp only[Ctr.cal] at hm;split at hm
 ·rename_i hf
  injection hm with hm
  subst hm;exact a8 hf
 ·cases hm⟩⟩
abbrev Gam:=List (Nat×Cal)
def Gam.ok (Γ:Gam) (P:Program):Prop:=∀ x∈Γ,Zre P x.1 x.2
def ZtJ:Gam->Nat->(Cal->Prop)->Prop
 | [],_,_=>False
 | (n,C)::r,f,K=>if n=f then K C else ZtJ r f K
def ZpB:Gam->Nat->Bool
 | [],_=>false
 | (n,C)::r,f=>if n=f then C.dat else ZpB r f
def ZpC:Gam->Nat->Option (List Bool)
 | [],_=>none
 | (n,C)::r,f=>if n=f then C.io else ZpC r f
theorem Znr {P:Program}:∀ (Γ:Gam),Γ.ok P->∀ {f:Nat} {K:Cal->Prop},ZtJ Γ f K->∃ C,Zre P f C/\K C/\C.dat=ZpB Γ f/\C.io=ZpC Γ f
 | [],_,_,_,h=>h.elim
 | (n,C)::r,hΓ,f,K,h=>by
  unfold ZtJ at h;unfold ZpB ZpC;split at h
  ·rename_i e;subst e;exact ⟨C,hΓ (n,C) (by simp),h,by rw[if_pos rfl],by rw[if_pos rfl]⟩
  ·rename_i e;rw[if_neg e,if_neg e];exact Znr r (λx hx=>hΓ x (by simp[hx])) h
def Zgl (Γ:Gam) (op:Op):Bool:=J8 op||ZhQ op||match op with
 | .call c=>match c.callee with
  | .value (.func f)=>ZpB Γ f
  | _=>false
 | _=>false
def ZgA (Γ:Gam) (op:Op):Option (List Operand):=match op with
 | .call c=>match c.callee with
  | .value (.func f)=>match ZpC Γ f with
   | some m=>some (pick m c.args.toList)
   | none=>none
  | _=>none
 | _=>none
def Zm2 (Δ:Tab) (Γ:Gam) (regs:List SV) (H:List Entry) (op:Op) (K:SV->List Entry->Prop):Prop :=
 match op with
 | .call c=>match c.callee with
  | .value fo=>Vh regs fo λsf=>match sf with
   | .fn f caps=>ZtJ Γ f λC=>Zqx regs c.args.toList λl=>Zmi l caps λl'=>C.run l' H K
   | _=>False
  | _=>opK Δ regs H op K
 | op=>opK Δ regs H op K
def ZqT (regs:List SV) (dst:Option Tmp) (s:SV) (K:List SV->Prop):Prop :=
 match dst with
 | none=>K regs
 | some d=>Zq0 regs d s K
def Zsk:List Oper->Nat->(Oper->Prop)->Prop
 | [],_,_=>False
 | o::_,0,K=>K o
 | _::r,n+1,K=>Zsk r n K
theorem ZiF:∀ (l:List Oper) {n:Nat} {K:Oper->Prop},Zsk l n K->∃ o,l[n]?=some o/\K o
 | [],_,_,h=>h.elim
 | o::_,0,K,h=>⟨o,rfl,h⟩
 | _::r,n+1,K,h=>by simpa using ZiF r (n:=n) h
def Zrc (Δ:Tab) (Γ:Gam) (ops:List Oper) (o:Oper) (regs:List SV) (H:List Entry) (K:List SV->List Entry->Prop):Prop :=
 match o.guard with
 | none=>Zm2 Δ Γ regs H o.op λs H'=>ZqT regs o.dst s λregs'=>K regs' H'
 | some (j,want)=>Zsk ops j λoj=>match oj.dst with
  | none=>False
  | some d=>ZjA regs d λsg=>match sg with
   | .blit b=>if b=want then Zm2 Δ Γ regs H o.op λs H'=>ZqT regs o.dst s λregs'=>K regs' H'
     else ZqT regs o.dst (.tup []) λregs'=>K regs' H
   | .bool p=>(p=want->Zq0 regs d (.blit want) λregs1=>Zm2 Δ Γ regs1 H o.op λs H'=>ZqT regs1 o.dst s λregs'=>K regs' H')/\
     (p = !want->Zq0 regs d (.blit (!want)) λregs1=>ZqT regs1 o.dst (.tup []) λregs'=>K regs' H)
   | .tup []=>ZqT regs o.dst (.tup []) λregs'=>K regs' H
   | _=>False
def ZxO (Δ:Tab) (Γ:Gam) (ops:List Oper):List Oper->List SV->List Entry->(List SV->List Entry->Prop)->Prop
 | [],regs,H,K=>K regs H
 | o::r,regs,H,K=>Zrc Δ Γ ops o regs H λregs' H'=>ZxO Δ Γ ops r regs' H' K
def Conc (B:Base) (regs:List SV) (H:List Entry) (a:Act) (w:World):Prop :=
 ∃ E,E.w=w/\Inv B E H/\ZT E regs a.tmps.toList/\a.defers=[]
section
variable {P:Program}
theorem Zh1 {E:Env} {regs:List SV} {a:Act} (hd:ZT E regs a.tmps.toList) {dst:Option Tmp} {s:SV} {v:Value} (hs:den E s v) {K:List SV->Prop} (hk:ZqT regs dst s K) :
  ∃ regs',ZT E regs' (a.put dst v).tmps.toList/\K regs'/\(a.put dst v).defers=a.defers:=by
 cases dst with
 | none=>exact ⟨regs,hd,hk,rfl⟩
 | some d =>
  simp only[ZqT,Zc9] at hk;refine ⟨_,?_,hk,rfl⟩;simp only[Act.put,Array.toList_setIfInBounds];exact Zdj _ _ hd d s v hs
theorem Zs4 {B:Base} {E:Env} {o:Oper} {a:Act} {K:SV->List Entry->Prop} (h:Ran P B E o a K) {next:Act->World->Prop} {Q:Exit->Act->World->Prop}
  (hn:∀ E' H' s v,Inv B E' H'->E.le E'->den E' s v->K s H'->((J8 o.op||ZhQ o.op)=true->Grow E.w E'.w)->(∀ x,appArg o.op=some x->E.w.grownBy E'.w (Yh (a.eval x)))->next (a.put o.dst v) E'.w):o.wp P a E.w next Q:=by
 obtain ⟨nx,v,E',H',s,h1,h2,h3,h4,h5,h6,_,h7,h8⟩:=h;unfold Oper.wp;rw[h1];rcases h2 with rfl | ⟨rfl,rfl⟩
 ·exact hn E' H' s v h3 h4 h5 h6 h7 h8
 ·exact hn E' H' s _ h3 h4 h5 h6 h7 h8
theorem Zul {Δ:Tab} (hΔ:Δ.ok P) {Γ:Gam} (hΓ:Γ.ok P) {B:Base} {E:Env} {H:List Entry} (hI:Inv B E H) {regs:List SV} {a:Act} (hd:ZT E regs a.tmps.toList) {o:Oper} {K:SV->List Entry->Prop}
  (h:Zm2 Δ Γ regs H o.op K) {next:Act->World->Prop} {Q:Exit->Act->World->Prop}
  (hn:∀ E' H' s v,Inv B E' H'->E.le E'->den E' s v->K s H'->(Zgl Γ o.op=true->Grow E.w E'.w)->(∀ x,appArg o.op=some x->E.w.grownBy E'.w (Yh (a.eval x)))->(∀ xs,ZgA Γ o.op=some xs->∀ b,b<E.w.heap.size->(∀ x∈xs,Yh (a.eval x)≠some b)->E'.w.heap[b]?=E.w.heap[b]?)->next (a.put o.dst v) E'.w):o.wp P a E.w next Q:=by
 obtain ⟨dst,op,type,pos,after,guard⟩:=o;simp only at h;unfold Zm2 at h;split at h
 ·rename_i c
  obtain ⟨callee,args,argTypes⟩:=c;simp only at h;split at h
  ·rename_i fo
   obtain ⟨sf,hsf,h⟩:=Yb hd h;split at h
   ·rename_i f caps
    simp only[den] at hsf;obtain ⟨cv,hfv,hcaps⟩:=hsf;obtain ⟨C,hC,h,hda,hio⟩:=Znr Γ hΓ h;obtain ⟨l,hl,h⟩:=ZhJ hd _ h;rw[Ju] at h;have hds:=Jw _ _ hl _ _ hcaps;have hcall:=hC.2 hI hds h;obtain ⟨⟨fn,hf,hname,hbody⟩,_⟩:=hC;have hrun:(execOp a.eval ⟨dst,.call ⟨.value fo,args,argTypes⟩,type,pos,after,guard⟩).run P E.w=.ok (.enter f (args.toList.map a.eval++cv).toArray) E.w:=by
     have hargs:(args.map a.eval)++cv.toArray=(args.toList.map a.eval++cv).toArray:=by
      apply Array.ext';simp
     simp only[execOp,resolve,hfv,Deferred.ofValue,pure_bind,invoke,Array.empty_append,hargs];unfold callFunc;rw[Sem.run_bind,run_program,Result.andThen_ok,hf];simp only[hname,hbody,Bool.false_eq_true,if_false];rfl
    unfold Oper.wp;rw[hrun];refine hcall.mono ?_;rintro e w' ⟨v,E',H',s,rfl,rfl,h1,h2,h3,h4,h5,h6⟩;refine hn E' H' s v h1 h2 h3 h4 (λhgr=>h5 ?_) (ZkJ rfl) (λxs hx b hb hne=>?_)
    ·rw[hda]
     cases fo with
     | func f0 =>
      simp only[Act.eval] at hfv;injection hfv with hfv
      injection hfv with hfv
      subst hfv;simpa[Zgl,J8,ZhQ] using hgr
     | _=>simp[Zgl,J8,ZhQ] at hgr
    ·cases fo with
     | func f0 =>
      simp only[Act.eval] at hfv;have hcv:cv=[]:=by
       have h:=hfv;simp at h;first | exact h.2.symm | exact h.2 | (rcases h with ⟨h1,h2⟩;simpa using h2.symm) | simpa using h.2
      injection hfv with hfv
      injection hfv with hfv
      subst hfv;simp only[ZgA] at hx;split at hx
      ·rename_i m hm
       injection hx with hx
       subst hx;refine h6 m (hio.trans hm) b hb (λu hu=>?_);have:pick m (args.toList.map a.eval++cv)=(pick m args.toList).map a.eval:=by
        rw[<-ZmO,hcv,List.append_nil]
       rw[this] at hu;obtain ⟨x,hx1,rfl⟩:=List.mem_map.1 hu;exact hne x hx1
      ·cases hx
     | _=>simp[ZgA] at hx
   ·exact h.elim
  ·rename_i hne
   refine Zs4 (Zsm hΔ hI hd h) (λE' H' s v h1 h2 h3 h4 h5 h6=>hn E' H' s v h1 h2 h3 h4 (λhgr=>h5 ?_) h6 (λxs hx=>?_))
   ·cases callee with
    | value f=>exact absurd rfl (hne f)
    | _=>simpa[Zgl,ZhQ] using hgr
   ·cases callee with
    | value f=>exact absurd rfl (hne f)
    | _=>simp[ZgA] at hx
 ·rename_i hne
  refine Zs4 (Zsm hΔ hI hd h) (λE' H' s v h1 h2 h3 h4 h5 h6=>hn E' H' s v h1 h2 h3 h4 (λhgr=>h5 ?_) h6 (λxs hx=>?_));rotate_left
  ·cases op with
   | call c=>exact absurd rfl (hne c)
   | _=>simp[ZgA] at hx
  cases op with
  | call c=>exact absurd rfl (hne c)
  | _=>first | rfl | exact hgr | (simp[Zgl,J8,ZhQ] at hgr ⊢)
def Zrs:Value->Option Bool
 | .bool b=>some b
 | _=>none
theorem Zmb {ops:Array Oper} {a:Act} {j d:Nat} {oj:Oper} {v:Value} (ho:ops.toList[j]?=some oj) (hd:oj.dst=some d) (hv:a.tmps.toList[d]?=some v) :
  yielded ops a.tmps j=Zrs v:=by
 have ho':ops[j]?=some oj:=by simpa using ho
 have hv':a.tmps[d]?=some v:=by simpa using hv
 unfold yielded;rw[ho',Option.bind_some,hd,Option.bind_some,hv'];cases v<;>rfl
theorem Zp1 {Δ:Tab} (hΔ:Δ.ok P) {Γ:Gam} (hΓ:Γ.ok P) {B:Base} (ops:Array Oper) {Q:Exit->Act->World->Prop} (o:Oper) {regs:List SV} {H:List Entry} {a:Act} {E:Env} (hI:Inv B E H) (hd:ZT E regs a.tmps.toList) (hdef:a.defers=[])
  {K:List SV->List Entry->Prop} (hk:Zrc Δ Γ ops.toList o regs H K) {next:Act->World->Prop}
  (hq:∀ regs' H' a' E',K regs' H'->Inv B E' H'->ZT E' regs' a'.tmps.toList->a'.defers=[]->E.le E'->(Zgl Γ o.op=true->Grow E.w E'.w)->(∀ x,appArg o.op=some x->E.w.grownBy E'.w (Yh (a.eval x)))->(∀ xs,ZgA Γ o.op=some xs->∀ b,b<E.w.heap.size->(∀ x∈xs,Yh (a.eval x)≠some b)->E'.w.heap[b]?=E.w.heap[b]?)->next a' E'.w) :
  (if Region.wanted o (yielded ops a.tmps) then o.wp P a E.w next Q\/(o.asks P a E.w/\LetsOut Q) else next (a.put o.dst undef) E.w):=by
 have run:∀ {regs:List SV},ZT E regs a.tmps.toList->(Zm2 Δ Γ regs H o.op λs H'=>ZqT regs o.dst s λregs'=>K regs' H')->o.wp P a E.w next Q:=by
  intro regs hd hk;refine Zul hΔ hΓ hI hd hk (λE' H' s v hI' hle hs hk hg hap hwr=>?_);obtain ⟨regs',hd',hk,hdf⟩:=Zh1 (ZE hle _ _ hd) hs hk;exact hq regs' H' _ _ hk hI' hd' (by rw[hdf];exact hdef) hle hg hap hwr
 have skip:∀ {regs:List SV},ZT E regs a.tmps.toList->(ZqT regs o.dst (.tup []) λregs'=>K regs' H)->next (a.put o.dst undef) E.w:=by
  intro regs hd hk;obtain ⟨regs',hd',hk,hdf⟩:=Zh1 hd (v:=undef) (by simp only[den];exact ⟨[],rfl,trivial⟩) hk;exact hq regs' H _ _ hk hI hd' (by rw[hdf];exact hdef) (Env.le.refl E) (λ_=>Grow.refl _) (λ_ _=>⟨rfl,rfl,rfl,Nat.le_refl _,λ_ _ _=>rfl⟩) (λ_ _ _ _ _=>rfl)
 unfold Zrc at hk;split at hk
 ·rename_i hg
  rw[if_pos (by simp[Region.wanted,hg])];exact .inl (run hd hk)
 ·rename_i j want hg
  obtain ⟨oj,hoj,hk1⟩:=ZiF _ hk;clear hk;split at hk1
  ·exact hk1.elim
  ·rename_i d hdst
   obtain ⟨sg,v,hv,hsg,hk,hrg⟩:=Zao _ _ hd hk1;clear hrg hk1;have hy:=Zmb hoj hdst hv;have hwant:Region.wanted o (yielded ops a.tmps)=(Zrs v == some want):=by
    simp only[Region.wanted,hg,hy]
   have hset:∀ (s:SV),den E s v->ZT E (regs.set d s) a.tmps.toList:=by
    intro s hs;have h1:=Zdj _ _ hd d s v hs;have hvs:a.tmps.toList.set d v=a.tmps.toList:=by
     apply List.ext_getElem?;intro k;by_cases hkd:d=k
     ·subst hkd
      have:=(List.getElem?_eq_some_iff.1 hv).1;rw[List.getElem?_set_self this,hv]
     ·rw[List.getElem?_set_ne hkd]
    rwa [hvs] at h1
   split at hk
   ·rename_i b
    simp only[den] at hsg;subst hsg;split at hk
    ·rename_i hb;subst hb
     rw[if_pos (by rw[hwant];simp[Zrs])];exact .inl (run hd hk)
    ·rename_i hb
     rw[if_neg (by rw[hwant];simp[Zrs];exact hb)];exact skip hd hk
   ·rename_i p
    simp only[den] at hsg;subst hsg;by_cases hp:p=want
    ·subst hp
     rw[if_pos (by rw[hwant];simp[Zrs])];have hk:=hk.1 rfl;rw[Zc9] at hk;exact .inl (run (hset _ (by simp only[den])) hk)
    ·have hp':p = !want:=by cases p<;>cases want<;>simp_all
     rw[if_neg (by rw[hwant];simp[Zrs];exact hp)];have hk:=hk.2 hp';rw[Zc9] at hk;exact skip (hset _ (by simp only[den,hp'])) hk
   ·simp only[den] at hsg
    obtain ⟨vs,hvs,hd0⟩:=hsg;have:v=.tuple #[]:=by
     cases vs with
     | nil=>rw[hvs]
     | cons=>simp[ZT] at hd0
    rw[if_neg (by rw[hwant,this];intro h;cases h)];exact skip hd hk
   ·exact hk.elim
theorem ZvT {Δ:Tab} (hΔ:Δ.ok P) {Γ:Gam} (hΓ:Γ.ok P) {B:Base} (ops:Array Oper) {Q:Exit->Act->World->Prop} (o:Oper) {regs:List SV} {H:List Entry} {a:Act} {w:World} (hc:Conc B regs H a w)
  {K:List SV->List Entry->Prop} (hk:Zrc Δ Γ ops.toList o regs H K) {next:Act->World->Prop}
  (hq:∀ regs' H' a' w',K regs' H'->Conc B regs' H' a' w'->(Zgl Γ o.op=true->Grow w w')->next a' w') :
  (if Region.wanted o (yielded ops a.tmps) then o.wp P a w next Q\/(o.asks P a w/\LetsOut Q) else next (a.put o.dst undef) w):=by
 obtain ⟨E,hw,hI,hd,hdef⟩:=hc;subst hw;exact Zp1 hΔ hΓ ops o hI hd hdef hk (λregs' H' a' E' hk hI' hd' hdef' _ hg _ _=>hq regs' H' a' _ hk ⟨E',rfl,hI',hd',hdef'⟩ hg)
theorem Zsn {Δ:Tab} (hΔ:Δ.ok P) {Γ:Gam} (hΓ:Γ.ok P) {B:Base} (ops:Array Oper) {Q:Exit->Act->World->Prop}:∀ (l:List Oper) {regs:List SV} {H:List Entry} {a:Act} {w:World} (_:Conc B regs H a w)
  {K:List SV->List Entry->Prop} (_:ZxO Δ Γ ops.toList l regs H K) (_:∀ regs' H' a' w',K regs' H'->Conc B regs' H' a' w'->Q .normal a' w'),wpList P ops Q l a w
 | [],regs,H,a,w,hc,K,hk,hq=>hq _ _ _ _ hk hc
 | o::r,regs,H,a,w,hc,K,hk,hq=>by
  simp only[ZxO] at hk;unfold wpList;exact ZvT hΔ hΓ ops o hc hk (λregs' H' a' w' hk' hc' _=>Zsn hΔ hΓ ops r hc' hk' hq)
def Zhv (B:Base) (E0:Env) (regs:List SV) (H:List Entry) (a:Act) (w:World):Prop :=
 ∃ E,E0.le E/\E.w=w/\Inv B E H/\ZT E regs a.tmps.toList/\a.defers=[]
theorem Zhv.Zzc {B:Base} {E0:Env} {regs:List SV} {H:List Entry} {a:Act} {w:World} (h:Zhv B E0 regs H a w):Conc B regs H a w:=by
 obtain ⟨E,_,h⟩:=h;exact ⟨E,h⟩
theorem ZnB {Δ:Tab} (hΔ:Δ.ok P) {Γ:Gam} {B:Base} (ops:Array Oper) (o:Oper) (hl:J8 o.op=true) {regs:List SV} {H:List Entry} {a:Act} {E:Env} (hI:Inv B E H) (hd:ZT E regs a.tmps.toList) (hdef:a.defers=[])
  {K:List SV->List Entry->Prop} (hk:Zrc Δ Γ ops.toList o regs H K) :
  ∃ v,((Region.wanted o (yielded ops a.tmps)=true/\∀ w',(isLoad o.op=true->Zmd E.w w')->(execOp a.eval o).run P w'=.ok (.value v) w')\/(Region.wanted o (yielded ops a.tmps)=false/\v=undef))/\
   ∃ regs' H',K regs' H'/\Zhv B E regs' H' (a.put o.dst v) E.w:=by
 have hst:∀ (K:SV->List Entry->Prop) (regs:List SV),Zm2 Δ Γ regs H o.op K->opK Δ regs H o.op K:=by
  intro K regs h;unfold Zm2 at h;split at h
  ·rename_i c heq
   split at h
   ·rename_i f hcal
    rw[heq] at hl;simp[J8,hcal] at hl
   ·exact h
  ·exact h
 have run:∀ {regs:List SV},ZT E regs a.tmps.toList->(Zm2 Δ Γ regs H o.op λs H'=>ZqT regs o.dst s λregs'=>K regs' H')->
   ∃ v,(∀ w',(isLoad o.op=true->Zmd E.w w')->(execOp a.eval o).run P w'=.ok (.value v) w')/\∃ regs' H',K regs' H'/\Zhv B E regs' H' (a.put o.dst v) E.w:=by
  intro regs hd hk;obtain ⟨nx,v,E',H',s,h1,h2,h3,h4,h5,h6,h7,_⟩:=Zsm hΔ hI hd (hst _ _ hk);obtain ⟨_,hw8,h8⟩:=h7 hl;obtain ⟨regs',hd',hk,hdf⟩:=Zh1 (ZE h4 _ _ hd) h5 h6;exact ⟨v,h8,regs',H',hk,E',h4,hw8,h3,hd',by rw[hdf];exact hdef⟩
 have skip:∀ {regs:List SV},ZT E regs a.tmps.toList->(ZqT regs o.dst (.tup []) λregs'=>K regs' H)->∃ regs' H',K regs' H'/\Zhv B E regs' H' (a.put o.dst undef) E.w:=by
  intro regs hd hk;obtain ⟨regs',hd',hk,hdf⟩:=Zh1 hd (v:=undef) (by simp only[den];exact ⟨[],rfl,trivial⟩) hk;exact ⟨regs',H,hk,E,Env.le.refl E,rfl,hI,hd',by rw[hdf];exact hdef⟩
 unfold Zrc at hk;split at hk
 ·rename_i hg
  obtain ⟨v,h1,h2⟩:=run hd hk;exact ⟨v,.inl ⟨by simp[Region.wanted,hg],h1⟩,h2⟩
 ·rename_i j want hg
  obtain ⟨oj,hoj,hk1⟩:=ZiF _ hk;clear hk;split at hk1
  ·exact hk1.elim
  ·rename_i d hdst
   obtain ⟨sg,v,hv,hsg,hk,hrg⟩:=Zao _ _ hd hk1;clear hrg hk1;have hy:=Zmb hoj hdst hv;have hwant:Region.wanted o (yielded ops a.tmps)=(Zrs v == some want):=by
    simp only[Region.wanted,hg,hy]
   have hset:∀ (s:SV),den E s v->ZT E (regs.set d s) a.tmps.toList:=by
    intro s hs;have h1:=Zdj _ _ hd d s v hs;have hvs:a.tmps.toList.set d v=a.tmps.toList:=by
     apply List.ext_getElem?;intro k;by_cases hkd:d=k
     ·subst hkd
      have:=(List.getElem?_eq_some_iff.1 hv).1;rw[List.getElem?_set_self this,hv]
     ·rw[List.getElem?_set_ne hkd]
    rwa [hvs] at h1
   split at hk
   ·rename_i b
    simp only[den] at hsg;subst hsg;split at hk
    ·rename_i hb;subst hb
     obtain ⟨v,h1,h2⟩:=run hd hk;exact ⟨v,.inl ⟨by rw[hwant];simp[Zrs],h1⟩,h2⟩
    ·rename_i hb
     exact ⟨_,.inr ⟨by rw[hwant];simp[Zrs];exact hb,rfl⟩,skip hd hk⟩
   ·rename_i p
    simp only[den] at hsg;subst hsg;by_cases hp:p=want
    ·subst hp
     have hk:=hk.1 rfl;rw[Zc9] at hk;obtain ⟨v,h1,h2⟩:=run (hset _ (by simp only[den])) hk;exact ⟨v,.inl ⟨by rw[hwant];simp[Zrs],h1⟩,h2⟩
    ·have hp':p = !want:=by cases p<;>cases want<;>simp_all
     have hk:=hk.2 hp';rw[Zc9] at hk;exact ⟨_,.inr ⟨by rw[hwant];simp[Zrs];exact hp,rfl⟩,skip (hset _ (by simp only[den,hp'])) hk⟩
   ·simp only[den] at hsg
    obtain ⟨vs,hvs,hd0⟩:=hsg;have:v=.tuple #[]:=by
     cases vs with
     | nil=>rw[hvs]
     | cons=>simp[ZT] at hd0
    exact ⟨_,.inr ⟨by rw[hwant,this];rfl,rfl⟩,skip hd hk⟩
   ·exact hk.elim
theorem ZxL {Δ:Tab} (hΔ:Δ.ok P) {Γ:Gam} {B:Base} (ops:Array Oper) (o:Oper) (hl:J8 o.op=true) {regs:List SV} {H:List Entry} {a:Act} {w:World} (hc:Conc B regs H a w)
  {K:List SV->List Entry->Prop} (hk:Zrc Δ Γ ops.toList o regs H K) :
  ∃ v,((Region.wanted o (yielded ops a.tmps)=true/\∀ w',(isLoad o.op=true->Zmd w w')->(execOp a.eval o).run P w'=.ok (.value v) w')\/(Region.wanted o (yielded ops a.tmps)=false/\v=undef))/\
   ∃ regs' H',K regs' H'/\Conc B regs' H' (a.put o.dst v) w:=by
 obtain ⟨E,hw,hI,hd,hdef⟩:=hc;subst hw;obtain ⟨v,h1,regs',H',h2,h3⟩:=ZnB hΔ ops o hl hI hd hdef hk;exact ⟨v,h1,regs',H',h2,h3.Zzc⟩
end
end Go.Sx
