/-
  One operation of a region, calls among them; the operations of a region one after the other.
-/
import Derived.Test.YtpiemlnhjobopaaGreatDoorSxLoop
namespace Go.Sx
set_option linter.unusedVariables false
set_option linter.unusedSimpArgs false
structure Cal where
 run:List SV→List Entry→(SV→List Entry→Prop)→Prop
 dat:Bool
def Zrt (P:Program) (f:FuncId) (C:Cal):Prop:=ZlH P f∧
 ∀ {B:Base} {E:Env} {H:List Entry},Inv B E H→∀ {ss:List SV} {vs:List Value},Z0 E ss vs→∀ {K:SV→List Entry→Prop},C.run ss H K→
  Calls P f vs.toArray E.w fun e w'=>∃ v E' H' s,e=.returned v∧E'.w=w'∧Inv B E' H'∧E.le E'∧den E' s v∧K s H'∧(C.dat=true→Grow E.w w')
def Ctr.cal (C:Ctr):Cal:=⟨Zua C,ZbP C.args⟩
theorem Ctr.ZvC {P:Program} {f:FuncId} {C:Ctr} (h:Za P f C):Zrt P f C.cal:=⟨h.1,fun hI _ _ hd _ hk=>Zs7 hI h hd hk⟩
abbrev Gam:=List (Nat×Cal)
def Gam.ok (Γ:Gam) (P:Program):Prop:=∀ x∈Γ,Zrt P x.1 x.2
def Zti:Gam→Nat→(Cal→Prop)→Prop
 | [],_,_=>False
 | (n,C)::r,f,K=>if n=f then K C else Zti r f K
def Zqp:Gam→Nat→Bool
 | [],_=>false
 | (n,C)::r,f=>if n=f then C.dat else Zqp r f
theorem Zo2 {P:Program}:∀ (Γ:Gam),Γ.ok P→∀ {f:Nat} {K:Cal→Prop},Zti Γ f K→∃ C,Zrt P f C∧K C∧C.dat=Zqp Γ f
 | [],_,_,_,h=>h.elim
 | (n,C)::r,hΓ,f,K,h=>by
  unfold Zti at h
  unfold Zqp
  split at h
  ·rename_i e;subst e;exact ⟨C,hΓ (n,C) (by simp),h,by rw [if_pos rfl]⟩
  ·rename_i e;rw [if_neg e];exact Zo2 r (fun x hx=>hΓ x (by simp [hx])) h
def Zhg (Γ:Gam) (op:Op):Bool:=Jy op||Zjc op||match op with
 | .call c=>match c.callee with
  | .value (.func f)=>Zqp Γ f
  | _=>false
 | _=>false
def ZoK (Δ:Tab) (Γ:Gam) (regs:List SV) (H:List Entry) (op:Op) (K:SV→List Entry→Prop):Prop :=
 match op with
 | .call c=>match c.callee with
  | .value fo=>QV regs fo fun sf=>match sf with
   | .fn f caps=>Zti Γ f fun C=>ZqY regs c.args.toList fun l=>Zog l caps fun l'=>C.run l' H K
   | _=>False
  | _=>opK Δ regs H op K
 | op=>opK Δ regs H op K
def Zrb (regs:List SV) (dst:Option Tmp) (s:SV) (K:List SV→Prop):Prop :=
 match dst with
 | none=>K regs
 | some d=>Zrg regs d s K
def Zsl:List Oper→Nat→(Oper→Prop)→Prop
 | [],_,_=>False
 | o::_,0,K=>K o
 | _::r,n+1,K=>Zsl r n K
theorem Zky:∀ (l:List Oper) {n:Nat} {K:Oper→Prop},Zsl l n K→∃ o,l[n]?=some o∧K o
 | [],_,_,h=>h.elim
 | o::_,0,K,h=>⟨o,rfl,h⟩
 | _::r,n+1,K,h=>by simpa using Zky r (n:=n) h
def Zrq (Δ:Tab) (Γ:Gam) (ops:List Oper) (o:Oper) (regs:List SV) (H:List Entry) (K:List SV→List Entry→Prop):Prop :=
 match o.guard with
 | none=>ZoK Δ Γ regs H o.op fun s H'=>Zrb regs o.dst s fun regs'=>K regs' H'
 | some (j,want)=>Zsl ops j fun oj=>match oj.dst with
  | none=>False
  | some d=>Zk7 regs d fun sg=>match sg with
   | .blit b=>if b=want then ZoK Δ Γ regs H o.op fun s H'=>Zrb regs o.dst s fun regs'=>K regs' H'
     else Zrb regs o.dst (.tup []) fun regs'=>K regs' H
   | .bool p=>(p=want→Zrg regs d (.blit want) fun regs1=>ZoK Δ Γ regs1 H o.op fun s H'=>Zrb regs1 o.dst s fun regs'=>K regs' H')∧
     (p = !want→Zrg regs d (.blit (!want)) fun regs1=>Zrb regs1 o.dst (.tup []) fun regs'=>K regs' H)
   | .tup []=>Zrb regs o.dst (.tup []) fun regs'=>K regs' H
   | _=>False
def ZwD (Δ:Tab) (Γ:Gam) (ops:List Oper):List Oper→List SV→List Entry→(List SV→List Entry→Prop)→Prop
 | [],regs,H,K=>K regs H
 | o::r,regs,H,K=>Zrq Δ Γ ops o regs H fun regs' H'=>ZwD Δ Γ ops r regs' H' K
def Conc (B:Base) (regs:List SV) (H:List Entry) (a:Act) (w:World):Prop :=
 ∃ E,E.w=w∧Inv B E H∧Z0 E regs a.tmps.toList∧a.defers=[]
section
variable {P:Program}
theorem ZjF {E:Env} {regs:List SV} {a:Act} (hd:Z0 E regs a.tmps.toList) {dst:Option Tmp} {s:SV} {v:Value} (hs:den E s v) {K:List SV→Prop} (hk:Zrb regs dst s K) :
  ∃ regs',Z0 E regs' (a.put dst v).tmps.toList∧K regs'∧(a.put dst v).defers=a.defers:=by
 cases dst with
 | none=>exact ⟨regs,hd,hk,rfl⟩
 | some d =>
  simp only [Zrb,ZcJ] at hk
  refine ⟨_,?_,hk,rfl⟩
  simp only [Act.put,Array.toList_setIfInBounds]
  exact ZcS _ _ hd d s v hs
theorem ZsQ {B:Base} {E:Env} {o:Oper} {a:Act} {K:SV→List Entry→Prop} (h:Ran P B E o a K) {next:Act→World→Prop} {Q:Exit→Act→World→Prop}
  (hn:∀ E' H' s v,Inv B E' H'→E.le E'→den E' s v→K s H'→((Jy o.op||Zjc o.op)=true→Grow E.w E'.w)→(∀ x,appArg o.op=some x→E.w.grownBy E'.w (a.eval x).ownBlock)→next (a.put o.dst v) E'.w):o.wp P a E.w next Q:=by
 obtain ⟨nx,v,E',H',s,h1,h2,h3,h4,h5,h6,_,h7,h8⟩:=h
 unfold Oper.wp
 rw [h1]
 rcases h2 with rfl | ⟨rfl,rfl⟩
 ·exact hn E' H' s v h3 h4 h5 h6 h7 h8
 ·exact hn E' H' s _ h3 h4 h5 h6 h7 h8
theorem ZtI {Δ:Tab} (hΔ:Δ.ok P) {Γ:Gam} (hΓ:Γ.ok P) {B:Base} {E:Env} {H:List Entry} (hI:Inv B E H) {regs:List SV} {a:Act} (hd:Z0 E regs a.tmps.toList) {o:Oper} {K:SV→List Entry→Prop}
  (h:ZoK Δ Γ regs H o.op K) {next:Act→World→Prop} {Q:Exit→Act→World→Prop}
  (hn:∀ E' H' s v,Inv B E' H'→E.le E'→den E' s v→K s H'→(Zhg Γ o.op=true→Grow E.w E'.w)→(∀ x,appArg o.op=some x→E.w.grownBy E'.w (a.eval x).ownBlock)→next (a.put o.dst v) E'.w):o.wp P a E.w next Q:=by
 obtain ⟨dst,op,type,pos,after,guard⟩:=o
 simp only at h
 unfold ZoK at h
 split at h
 ·rename_i c
  obtain ⟨callee,args,argTypes⟩:=c
  simp only at h
  split at h
  ·rename_i fo
   obtain ⟨sf,hsf,h⟩:=Yf hd h
   split at h
   ·rename_i f caps
    simp only [den] at hsf
    obtain ⟨cv,hfv,hcaps⟩:=hsf
    obtain ⟨C,hC,h,hda⟩:=Zo2 Γ hΓ h
    obtain ⟨l,hl,h⟩:=Zi8 hd _ h
    rw [VQ] at h
    have hds:=VX _ _ hl _ _ hcaps
    have hcall:=hC.2 hI hds h
    obtain ⟨⟨fn,hf,hname,hbody⟩,_⟩:=hC
    have hrun:(execOp a.eval ⟨dst,.call ⟨.value fo,args,argTypes⟩,type,pos,after,guard⟩).run P E.w=.ok (.enter f (args.toList.map a.eval++cv).toArray) E.w:=by
     have hargs:(args.map a.eval)++cv.toArray=(args.toList.map a.eval++cv).toArray:=by
      apply Array.ext'
      simp
     simp only [execOp,resolve,hfv,Deferred.ofValue,pure_bind,invoke,Array.empty_append,hargs]
     unfold callFunc
     rw [Sem.run_bind,run_program,Result.andThen_ok,hf]
     simp only [hname,hbody,Bool.false_eq_true,if_false]
     rfl
    unfold Oper.wp
    rw [hrun]
    refine hcall.mono ?_
    rintro e w' ⟨v,E',H',s,rfl,rfl,h1,h2,h3,h4,h5⟩
    refine hn E' H' s v h1 h2 h3 h4 (fun hgr=>h5 ?_) (ZkU rfl)
    rw [hda]
    cases fo with
    | func f0 =>
     simp only [Act.eval] at hfv
     injection hfv with hfv
     injection hfv with hfv
     subst hfv
     simpa [Zhg,Jy,Zjc] using hgr
    | _=>simp [Zhg,Jy,Zjc] at hgr
   ·exact h.elim
  ·rename_i hne
   refine ZsQ (Zsn hΔ hI hd h) (fun E' H' s v h1 h2 h3 h4 h5 h6=>hn E' H' s v h1 h2 h3 h4 (fun hgr=>h5 ?_) h6)
   cases callee with
   | value f=>exact absurd rfl (hne f)
   | _=>simpa [Zhg,Zjc] using hgr
 ·rename_i hne
  refine ZsQ (Zsn hΔ hI hd h) (fun E' H' s v h1 h2 h3 h4 h5 h6=>hn E' H' s v h1 h2 h3 h4 (fun hgr=>h5 ?_) h6)
  cases op with
  | call c=>exact absurd rfl (hne c)
  | _=>first | rfl | exact hgr | (simp [Zhg,Jy,Zjc] at hgr ⊢)
def ZrF:Value→Option Bool
 | .bool b=>some b
 | _=>none
theorem Zn9 {ops:Array Oper} {a:Act} {j d:Nat} {oj:Oper} {v:Value} (ho:ops.toList[j]?=some oj) (hd:oj.dst=some d) (hv:a.tmps.toList[d]?=some v) :
  yielded ops a.tmps j=ZrF v:=by
 have ho':ops[j]?=some oj:=by simpa using ho
 have hv':a.tmps[d]?=some v:=by simpa using hv
 unfold yielded
 rw [ho',Option.bind_some,hd,Option.bind_some,hv']
 cases v<;>rfl
theorem ZqE {Δ:Tab} (hΔ:Δ.ok P) {Γ:Gam} (hΓ:Γ.ok P) {B:Base} (ops:Array Oper) {Q:Exit→Act→World→Prop} (o:Oper) {regs:List SV} {H:List Entry} {a:Act} {E:Env} (hI:Inv B E H) (hd:Z0 E regs a.tmps.toList) (hdef:a.defers=[])
  {K:List SV→List Entry→Prop} (hk:Zrq Δ Γ ops.toList o regs H K) {next:Act→World→Prop}
  (hq:∀ regs' H' a' E',K regs' H'→Inv B E' H'→Z0 E' regs' a'.tmps.toList→a'.defers=[]→E.le E'→(Zhg Γ o.op=true→Grow E.w E'.w)→(∀ x,appArg o.op=some x→E.w.grownBy E'.w (a.eval x).ownBlock)→next a' E'.w) :
  (if Region.wanted o (yielded ops a.tmps) then o.wp P a E.w next Q∨(o.asks P a E.w∧LetsOut Q) else next (a.put o.dst undef) E.w):=by
 have run:∀ {regs:List SV},Z0 E regs a.tmps.toList→(ZoK Δ Γ regs H o.op fun s H'=>Zrb regs o.dst s fun regs'=>K regs' H')→o.wp P a E.w next Q:=by
  intro regs hd hk
  refine ZtI hΔ hΓ hI hd hk (fun E' H' s v hI' hle hs hk hg hap=>?_)
  obtain ⟨regs',hd',hk,hdf⟩:=ZjF (Zz hle _ _ hd) hs hk
  exact hq regs' H' _ _ hk hI' hd' (by rw [hdf];exact hdef) hle hg hap
 have skip:∀ {regs:List SV},Z0 E regs a.tmps.toList→(Zrb regs o.dst (.tup []) fun regs'=>K regs' H)→next (a.put o.dst undef) E.w:=by
  intro regs hd hk
  obtain ⟨regs',hd',hk,hdf⟩:=ZjF hd (v:=undef) (by simp only [den];exact ⟨[],rfl,trivial⟩) hk
  exact hq regs' H _ _ hk hI hd' (by rw [hdf];exact hdef) (Env.le.refl E) (fun _=>Grow.refl _) (fun _ _=>⟨rfl,rfl,rfl,Nat.le_refl _,fun _ _ _=>rfl⟩)
 unfold Zrq at hk
 split at hk
 ·rename_i hg
  rw [if_pos (by simp [Region.wanted,hg])]
  exact .inl (run hd hk)
 ·rename_i j want hg
  obtain ⟨oj,hoj,hk1⟩:=Zky _ hk
  clear hk
  split at hk1
  ·exact hk1.elim
  ·rename_i d hdst
   obtain ⟨sg,v,hv,hsg,hk,hrg⟩:=JN _ _ hd hk1
   clear hrg hk1
   have hy:=Zn9 hoj hdst hv
   have hwant:Region.wanted o (yielded ops a.tmps)=(ZrF v == some want):=by
    simp only [Region.wanted,hg,hy]
   have hset:∀ (s:SV),den E s v→Z0 E (regs.set d s) a.tmps.toList:=by
    intro s hs
    have h1:=ZcS _ _ hd d s v hs
    have hvs:a.tmps.toList.set d v=a.tmps.toList:=by
     apply List.ext_getElem?
     intro k
     by_cases hkd:d=k
     ·subst hkd
      have:=(List.getElem?_eq_some_iff.1 hv).1
      rw [List.getElem?_set_self this,hv]
     ·rw [List.getElem?_set_ne hkd]
    rwa [hvs] at h1
   split at hk
   ·rename_i b
    simp only [den] at hsg;subst hsg
    split at hk
    ·rename_i hb;subst hb
     rw [if_pos (by rw [hwant];simp [ZrF])]
     exact .inl (run hd hk)
    ·rename_i hb
     rw [if_neg (by rw [hwant];simp [ZrF];exact hb)]
     exact skip hd hk
   ·rename_i p
    simp only [den] at hsg;subst hsg
    by_cases hp:p=want
    ·subst hp
     rw [if_pos (by rw [hwant];simp [ZrF])]
     have hk:=hk.1 rfl
     rw [ZcJ] at hk
     exact .inl (run (hset _ (by simp only [den])) hk)
    ·have hp':p = !want:=by cases p<;>cases want<;>simp_all
     rw [if_neg (by rw [hwant];simp [ZrF];exact hp)]
     have hk:=hk.2 hp'
     rw [ZcJ] at hk
     exact skip (hset _ (by simp only [den,hp'])) hk
   ·simp only [den] at hsg
    obtain ⟨vs,hvs,hd0⟩:=hsg
    have:v=.tuple #[]:=by
     cases vs with
     | nil=>rw [hvs]
     | cons=>simp [Z0] at hd0
    rw [if_neg (by rw [hwant,this];intro h;cases h)]
    exact skip hd hk
   ·exact hk.elim
theorem Zuv {Δ:Tab} (hΔ:Δ.ok P) {Γ:Gam} (hΓ:Γ.ok P) {B:Base} (ops:Array Oper) {Q:Exit→Act→World→Prop} (o:Oper) {regs:List SV} {H:List Entry} {a:Act} {w:World} (hc:Conc B regs H a w)
  {K:List SV→List Entry→Prop} (hk:Zrq Δ Γ ops.toList o regs H K) {next:Act→World→Prop}
  (hq:∀ regs' H' a' w',K regs' H'→Conc B regs' H' a' w'→(Zhg Γ o.op=true→Grow w w')→next a' w') :
  (if Region.wanted o (yielded ops a.tmps) then o.wp P a w next Q∨(o.asks P a w∧LetsOut Q) else next (a.put o.dst undef) w):=by
 obtain ⟨E,hw,hI,hd,hdef⟩:=hc
 subst hw
 exact ZqE hΔ hΓ ops o hI hd hdef hk (fun regs' H' a' E' hk hI' hd' hdef' _ hg _=>hq regs' H' a' _ hk ⟨E',rfl,hI',hd',hdef'⟩ hg)
theorem Zso {Δ:Tab} (hΔ:Δ.ok P) {Γ:Gam} (hΓ:Γ.ok P) {B:Base} (ops:Array Oper) {Q:Exit→Act→World→Prop}:∀ (l:List Oper) {regs:List SV} {H:List Entry} {a:Act} {w:World} (_:Conc B regs H a w)
  {K:List SV→List Entry→Prop} (_:ZwD Δ Γ ops.toList l regs H K) (_:∀ regs' H' a' w',K regs' H'→Conc B regs' H' a' w'→Q .normal a' w'),wpList P ops Q l a w
 | [],regs,H,a,w,hc,K,hk,hq=>hq _ _ _ _ hk hc
 | o::r,regs,H,a,w,hc,K,hk,hq=>by
  simp only [ZwD] at hk
  unfold wpList
  exact Zuv hΔ hΓ ops o hc hk (fun regs' H' a' w' hk' hc' _=>Zso hΔ hΓ ops r hc' hk' hq)
def ZiX (B:Base) (E0:Env) (regs:List SV) (H:List Entry) (a:Act) (w:World):Prop :=
 ∃ E,E0.le E∧E.w=w∧Inv B E H∧Z0 E regs a.tmps.toList∧a.defers=[]
theorem ZiX.Zx2 {B:Base} {E0:Env} {regs:List SV} {H:List Entry} {a:Act} {w:World} (h:ZiX B E0 regs H a w):Conc B regs H a w:=by
 obtain ⟨E,_,h⟩:=h
 exact ⟨E,h⟩
theorem Zo9 {Δ:Tab} (hΔ:Δ.ok P) {Γ:Gam} {B:Base} (ops:Array Oper) (o:Oper) (hl:Jy o.op=true) {regs:List SV} {H:List Entry} {a:Act} {E:Env} (hI:Inv B E H) (hd:Z0 E regs a.tmps.toList) (hdef:a.defers=[])
  {K:List SV→List Entry→Prop} (hk:Zrq Δ Γ ops.toList o regs H K) :
  ∃ v,((Region.wanted o (yielded ops a.tmps)=true∧∀ w',(isLoad o.op=true→Zoc E.w w')→(execOp a.eval o).run P w'=.ok (.value v) w')∨(Region.wanted o (yielded ops a.tmps)=false∧v=undef))∧
   ∃ regs' H',K regs' H'∧ZiX B E regs' H' (a.put o.dst v) E.w:=by
 have hst:∀ (K:SV→List Entry→Prop) (regs:List SV),ZoK Δ Γ regs H o.op K→opK Δ regs H o.op K:=by
  intro K regs h
  unfold ZoK at h
  split at h
  ·rename_i c heq
   split at h
   ·rename_i f hcal
    rw [heq] at hl
    simp [Jy,hcal] at hl
   ·exact h
  ·exact h
 have run:∀ {regs:List SV},Z0 E regs a.tmps.toList→(ZoK Δ Γ regs H o.op fun s H'=>Zrb regs o.dst s fun regs'=>K regs' H')→
   ∃ v,(∀ w',(isLoad o.op=true→Zoc E.w w')→(execOp a.eval o).run P w'=.ok (.value v) w')∧∃ regs' H',K regs' H'∧ZiX B E regs' H' (a.put o.dst v) E.w:=by
  intro regs hd hk
  obtain ⟨nx,v,E',H',s,h1,h2,h3,h4,h5,h6,h7,_⟩:=Zsn hΔ hI hd (hst _ _ hk)
  obtain ⟨_,hw8,h8⟩:=h7 hl
  obtain ⟨regs',hd',hk,hdf⟩:=ZjF (Zz h4 _ _ hd) h5 h6
  exact ⟨v,h8,regs',H',hk,E',h4,hw8,h3,hd',by rw [hdf];exact hdef⟩
 have skip:∀ {regs:List SV},Z0 E regs a.tmps.toList→(Zrb regs o.dst (.tup []) fun regs'=>K regs' H)→∃ regs' H',K regs' H'∧ZiX B E regs' H' (a.put o.dst undef) E.w:=by
  intro regs hd hk
  obtain ⟨regs',hd',hk,hdf⟩:=ZjF hd (v:=undef) (by simp only [den];exact ⟨[],rfl,trivial⟩) hk
  exact ⟨regs',H,hk,E,Env.le.refl E,rfl,hI,hd',by rw [hdf];exact hdef⟩
 unfold Zrq at hk
 split at hk
 ·rename_i hg
  obtain ⟨v,h1,h2⟩:=run hd hk
  exact ⟨v,.inl ⟨by simp [Region.wanted,hg],h1⟩,h2⟩
 ·rename_i j want hg
  obtain ⟨oj,hoj,hk1⟩:=Zky _ hk
  clear hk
  split at hk1
  ·exact hk1.elim
  ·rename_i d hdst
   obtain ⟨sg,v,hv,hsg,hk,hrg⟩:=JN _ _ hd hk1
   clear hrg hk1
   have hy:=Zn9 hoj hdst hv
   have hwant:Region.wanted o (yielded ops a.tmps)=(ZrF v == some want):=by
    simp only [Region.wanted,hg,hy]
   have hset:∀ (s:SV),den E s v→Z0 E (regs.set d s) a.tmps.toList:=by
    intro s hs
    have h1:=ZcS _ _ hd d s v hs
    have hvs:a.tmps.toList.set d v=a.tmps.toList:=by
     apply List.ext_getElem?
     intro k
     by_cases hkd:d=k
     ·subst hkd
      have:=(List.getElem?_eq_some_iff.1 hv).1
      rw [List.getElem?_set_self this,hv]
     ·rw [List.getElem?_set_ne hkd]
    rwa [hvs] at h1
   split at hk
   ·rename_i b
    simp only [den] at hsg;subst hsg
    split at hk
    ·rename_i hb;subst hb
     obtain ⟨v,h1,h2⟩:=run hd hk
     exact ⟨v,.inl ⟨by rw [hwant];simp [ZrF],h1⟩,h2⟩
    ·rename_i hb
     exact ⟨_,.inr ⟨by rw [hwant];simp [ZrF];exact hb,rfl⟩,skip hd hk⟩
   ·rename_i p
    simp only [den] at hsg;subst hsg
    by_cases hp:p=want
    ·subst hp
     have hk:=hk.1 rfl
     rw [ZcJ] at hk
     obtain ⟨v,h1,h2⟩:=run (hset _ (by simp only [den])) hk
     exact ⟨v,.inl ⟨by rw [hwant];simp [ZrF],h1⟩,h2⟩
    ·have hp':p = !want:=by cases p<;>cases want<;>simp_all
     have hk:=hk.2 hp'
     rw [ZcJ] at hk
     exact ⟨_,.inr ⟨by rw [hwant];simp [ZrF];exact hp,rfl⟩,skip (hset _ (by simp only [den,hp'])) hk⟩
   ·simp only [den] at hsg
    obtain ⟨vs,hvs,hd0⟩:=hsg
    have:v=.tuple #[]:=by
     cases vs with
     | nil=>rw [hvs]
     | cons=>simp [Z0] at hd0
    exact ⟨_,.inr ⟨by rw [hwant,this];rfl,rfl⟩,skip hd hk⟩
   ·exact hk.elim
theorem ZwB {Δ:Tab} (hΔ:Δ.ok P) {Γ:Gam} {B:Base} (ops:Array Oper) (o:Oper) (hl:Jy o.op=true) {regs:List SV} {H:List Entry} {a:Act} {w:World} (hc:Conc B regs H a w)
  {K:List SV→List Entry→Prop} (hk:Zrq Δ Γ ops.toList o regs H K) :
  ∃ v,((Region.wanted o (yielded ops a.tmps)=true∧∀ w',(isLoad o.op=true→Zoc w w')→(execOp a.eval o).run P w'=.ok (.value v) w')∨(Region.wanted o (yielded ops a.tmps)=false∧v=undef))∧
   ∃ regs' H',K regs' H'∧Conc B regs' H' (a.put o.dst v) w:=by
 obtain ⟨E,hw,hI,hd,hdef⟩:=hc
 subst hw
 obtain ⟨v,h1,regs',H',h2,h3⟩:=Zo9 hΔ ops o hl hI hd hdef hk
 exact ⟨v,h1,regs',H',h2,h3.Zx2⟩
end
end Go.Sx
