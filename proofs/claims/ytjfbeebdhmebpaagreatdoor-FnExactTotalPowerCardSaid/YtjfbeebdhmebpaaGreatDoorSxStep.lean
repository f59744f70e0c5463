/-
  One operation of a region, calls among them; the operations of a region one after the other.
-/
import Derived.Test.YtjfbeebdhmebpaaGreatDoorSxLoop
namespace Go.Sx
set_option linter.unusedVariables false
set_option linter.unusedSimpArgs false
structure Cal where
 run:List SV→List Entry→(SV→List Entry→Prop)→Prop
 dat:Bool
def ZnY (P:Program) (f:FuncId) (C:Cal):Prop:=ZfK P f∧
 ∀ {B:Base} {E:Env} {H:List Entry},Inv B E H→∀ {ss:List SV} {vs:List Value},ZL E ss vs→∀ {K:SV→List Entry→Prop},C.run ss H K→
  Calls P f vs.toArray E.w fun e w'=>∃ v E' H' s,e=.returned v∧E'.w=w'∧Inv B E' H'∧E.le E'∧den E' s v∧K s H'∧(C.dat=true→Grow E.w w')
def Ctr.cal (C:Ctr):Cal:=⟨Zqz C,JL C.args⟩
theorem Ctr.ZrR {P:Program} {f:FuncId} {C:Ctr} (h:Za P f C):ZnY P f C.cal:=⟨h.1,fun hI _ _ hd _ hk=>Zpv hI h hd hk⟩
abbrev Gam:=List (Nat×Cal)
def Gam.ok (Γ:Gam) (P:Program):Prop:=∀ x∈Γ,ZnY P x.1 x.2
def ZpI:Gam→Nat→(Cal→Prop)→Prop
 | [],_,_=>False
 | (n,C)::r,f,K=>if n=f then K C else ZpI r f K
def ZmC:Gam→Nat→Bool
 | [],_=>false
 | (n,C)::r,f=>if n=f then C.dat else ZmC r f
theorem Zk8 {P:Program}:∀ (Γ:Gam),Γ.ok P→∀ {f:Nat} {K:Cal→Prop},ZpI Γ f K→∃ C,ZnY P f C∧K C∧C.dat=ZmC Γ f
 | [],_,_,_,h=>h.elim
 | (n,C)::r,hΓ,f,K,h=>by
  unfold ZpI at h
  unfold ZmC
  split at h
  ·rename_i e;subst e;exact ⟨C,hΓ (n,C) (by simp),h,by rw [if_pos rfl]⟩
  ·rename_i e;rw [if_neg e];exact Zk8 r (fun x hx=>hΓ x (by simp [hx])) h
def Zeq (Γ:Gam) (op:Op):Bool:=QO op||Zf0 op||match op with
 | .call c=>match c.callee with
  | .value (.func f)=>ZmC Γ f
  | _=>false
 | _=>false
def ZkJ (Δ:Tab) (Γ:Gam) (regs:List SV) (H:List Entry) (op:Op) (K:SV→List Entry→Prop):Prop :=
 match op with
 | .call c=>match c.callee with
  | .value fo=>XU regs fo fun sf=>match sf with
   | .fn f caps=>ZpI Γ f fun C=>Znl regs c.args.toList fun l=>Zka l caps fun l'=>C.run l' H K
   | _=>False
  | _=>opK Δ regs H op K
 | op=>opK Δ regs H op K
def ZnA (regs:List SV) (dst:Option Tmp) (s:SV) (K:List SV→Prop):Prop :=
 match dst with
 | none=>K regs
 | some d=>ZnF regs d s K
def ZoQ:List Oper→Nat→(Oper→Prop)→Prop
 | [],_,_=>False
 | o::_,0,K=>K o
 | _::r,n+1,K=>ZoQ r n K
theorem Zg3:∀ (l:List Oper) {n:Nat} {K:Oper→Prop},ZoQ l n K→∃ o,l[n]?=some o∧K o
 | [],_,_,h=>h.elim
 | o::_,0,K,h=>⟨o,rfl,h⟩
 | _::r,n+1,K,h=>by simpa using Zg3 r (n:=n) h
def ZnV (Δ:Tab) (Γ:Gam) (ops:List Oper) (o:Oper) (regs:List SV) (H:List Entry) (K:List SV→List Entry→Prop):Prop :=
 match o.guard with
 | none=>ZkJ Δ Γ regs H o.op fun s H'=>ZnA regs o.dst s fun regs'=>K regs' H'
 | some (j,want)=>ZoQ ops j fun oj=>match oj.dst with
  | none=>False
  | some d=>Zhs regs d fun sg=>match sg with
   | .blit b=>if b=want then ZkJ Δ Γ regs H o.op fun s H'=>ZnA regs o.dst s fun regs'=>K regs' H'
     else ZnA regs o.dst (.tup []) fun regs'=>K regs' H
   | .bool p=>(p=want→ZnF regs d (.blit want) fun regs1=>ZkJ Δ Γ regs1 H o.op fun s H'=>ZnA regs1 o.dst s fun regs'=>K regs' H')∧
     (p = !want→ZnF regs d (.blit (!want)) fun regs1=>ZnA regs1 o.dst (.tup []) fun regs'=>K regs' H)
   | .tup []=>ZnA regs o.dst (.tup []) fun regs'=>K regs' H
   | _=>False
def ZsE (Δ:Tab) (Γ:Gam) (ops:List Oper):List Oper→List SV→List Entry→(List SV→List Entry→Prop)→Prop
 | [],regs,H,K=>K regs H
 | o::r,regs,H,K=>ZnV Δ Γ ops o regs H fun regs' H'=>ZsE Δ Γ ops r regs' H' K
def Conc (B:Base) (regs:List SV) (H:List Entry) (a:Act) (w:World):Prop :=
 ∃ E,E.w=w∧Inv B E H∧ZL E regs a.tmps.toList∧a.defers=[]
section
variable {P:Program}
theorem Zgq {E:Env} {regs:List SV} {a:Act} (hd:ZL E regs a.tmps.toList) {dst:Option Tmp} {s:SV} {v:Value} (hs:den E s v) {K:List SV→Prop} (hk:ZnA regs dst s K) :
  ∃ regs',ZL E regs' (a.put dst v).tmps.toList∧K regs'∧(a.put dst v).defers=a.defers:=by
 cases dst with
 | none=>exact ⟨regs,hd,hk,rfl⟩
 | some d =>
  simp only [ZnA,Zav] at hk
  refine ⟨_,?_,hk,rfl⟩
  simp only [Act.put,Array.toList_setIfInBounds]
  exact ZaD _ _ hd d s v hs
theorem Zpl {B:Base} {E:Env} {o:Oper} {a:Act} {K:SV→List Entry→Prop} (h:Ran P B E o a K) {next:Act→World→Prop} {Q:Exit→Act→World→Prop}
  (hn:∀ E' H' s v,Inv B E' H'→E.le E'→den E' s v→K s H'→((QO o.op||Zf0 o.op)=true→Grow E.w E'.w)→(∀ x,appArg o.op=some x→E.w.grownBy E'.w (a.eval x).ownBlock)→next (a.put o.dst v) E'.w):o.wp P a E.w next Q:=by
 obtain ⟨nx,v,E',H',s,h1,h2,h3,h4,h5,h6,_,h7,h8⟩:=h
 unfold Oper.wp
 rw [h1]
 rcases h2 with rfl | ⟨rfl,rfl⟩
 ·exact hn E' H' s v h3 h4 h5 h6 h7 h8
 ·exact hn E' H' s _ h3 h4 h5 h6 h7 h8
theorem Zp8 {Δ:Tab} (hΔ:Δ.ok P) {Γ:Gam} (hΓ:Γ.ok P) {B:Base} {E:Env} {H:List Entry} (hI:Inv B E H) {regs:List SV} {a:Act} (hd:ZL E regs a.tmps.toList) {o:Oper} {K:SV→List Entry→Prop}
  (h:ZkJ Δ Γ regs H o.op K) {next:Act→World→Prop} {Q:Exit→Act→World→Prop}
  (hn:∀ E' H' s v,Inv B E' H'→E.le E'→den E' s v→K s H'→(Zeq Γ o.op=true→Grow E.w E'.w)→(∀ x,appArg o.op=some x→E.w.grownBy E'.w (a.eval x).ownBlock)→next (a.put o.dst v) E'.w):o.wp P a E.w next Q:=by
 obtain ⟨dst,op,type,pos,after,guard⟩:=o
 simp only at h
 unfold ZkJ at h
 split at h
 ·rename_i c
  obtain ⟨callee,args,argTypes⟩:=c
  simp only at h
  split at h
  ·rename_i fo
   obtain ⟨sf,hsf,h⟩:=ZW hd h
   split at h
   ·rename_i f caps
    simp only [den] at hsf
    obtain ⟨cv,hfv,hcaps⟩:=hsf
    obtain ⟨C,hC,h,hda⟩:=Zk8 Γ hΓ h
    obtain ⟨l,hl,h⟩:=ZfW hd _ h
    rw [Qr] at h
    have hds:=Qs _ _ hl _ _ hcaps
    have hcall:=hC.2 hI hds h
    obtain ⟨⟨fn,hf,hname,hbody⟩,_⟩:=hC
    have hrun:(execOp a.eval ⟨dst,.call ⟨.value fo,args,argTypes⟩,type,pos,after,guard⟩).run P E.w=.ok (.enter f (args.toList.map a.eval++cv).toArray) E.w:=by
     have hargs:(args.map a.eval)++cv.toArray=(args.toList.map a.eval++cv).toArray:=by
      apply Array.ext'
      simp
     simp only [execOp,resolve,hfv,Deferred.ofValue,pure_bind,invoke,Array.empty_append,hargs]
     unfold callFunc
     rw [Sem.run_bind,run_program,Result.andThen_ok,hf]
     simp only [hname,hbody,Bool.false_eq_true,if_false]
     rfl
    unfold Oper.wp
    rw [hrun]
    refine hcall.mono ?_
    rintro e w' ⟨v,E',H',s,rfl,rfl,h1,h2,h3,h4,h5⟩
    refine hn E' H' s v h1 h2 h3 h4 (fun hgr=>h5 ?_) (Zhk rfl)
    rw [hda]
    cases fo with
    | func f0 =>
     simp only [Act.eval] at hfv
     injection hfv with hfv
     injection hfv with hfv
     subst hfv
     simpa [Zeq,QO,Zf0] using hgr
    | _=>simp [Zeq,QO,Zf0] at hgr
   ·exact h.elim
  ·rename_i hne
   refine Zpl (ZoS hΔ hI hd h) (fun E' H' s v h1 h2 h3 h4 h5 h6=>hn E' H' s v h1 h2 h3 h4 (fun hgr=>h5 ?_) h6)
   cases callee with
   | value f=>exact absurd rfl (hne f)
   | _=>simpa [Zeq,Zf0] using hgr
 ·rename_i hne
  refine Zpl (ZoS hΔ hI hd h) (fun E' H' s v h1 h2 h3 h4 h5 h6=>hn E' H' s v h1 h2 h3 h4 (fun hgr=>h5 ?_) h6)
  cases op with
  | call c=>exact absurd rfl (hne c)
  | _=>first | rfl | exact hgr | (simp [Zeq,QO,Zf0] at hgr ⊢)
def Zn9:Value→Option Bool
 | .bool b=>some b
 | _=>none
theorem Zj4 {ops:Array Oper} {a:Act} {j d:Nat} {oj:Oper} {v:Value} (ho:ops.toList[j]?=some oj) (hd:oj.dst=some d) (hv:a.tmps.toList[d]?=some v) :
  yielded ops a.tmps j=Zn9 v:=by
 have ho':ops[j]?=some oj:=by simpa using ho
 have hv':a.tmps[d]?=some v:=by simpa using hv
 unfold yielded
 rw [ho',Option.bind_some,hd,Option.bind_some,hv']
 cases v<;>rfl
theorem ZmY {Δ:Tab} (hΔ:Δ.ok P) {Γ:Gam} (hΓ:Γ.ok P) {B:Base} (ops:Array Oper) {Q:Exit→Act→World→Prop} (o:Oper) {regs:List SV} {H:List Entry} {a:Act} {E:Env} (hI:Inv B E H) (hd:ZL E regs a.tmps.toList) (hdef:a.defers=[])
  {K:List SV→List Entry→Prop} (hk:ZnV Δ Γ ops.toList o regs H K) {next:Act→World→Prop}
  (hq:∀ regs' H' a' E',K regs' H'→Inv B E' H'→ZL E' regs' a'.tmps.toList→a'.defers=[]→E.le E'→(Zeq Γ o.op=true→Grow E.w E'.w)→(∀ x,appArg o.op=some x→E.w.grownBy E'.w (a.eval x).ownBlock)→next a' E'.w) :
  (if Region.wanted o (yielded ops a.tmps) then o.wp P a E.w next Q∨(o.asks P a E.w∧LetsOut Q) else next (a.put o.dst undef) E.w):=by
 have run:∀ {regs:List SV},ZL E regs a.tmps.toList→(ZkJ Δ Γ regs H o.op fun s H'=>ZnA regs o.dst s fun regs'=>K regs' H')→o.wp P a E.w next Q:=by
  intro regs hd hk
  refine Zp8 hΔ hΓ hI hd hk (fun E' H' s v hI' hle hs hk hg hap=>?_)
  obtain ⟨regs',hd',hk,hdf⟩:=Zgq (Zr hle _ _ hd) hs hk
  exact hq regs' H' _ _ hk hI' hd' (by rw [hdf];exact hdef) hle hg hap
 have skip:∀ {regs:List SV},ZL E regs a.tmps.toList→(ZnA regs o.dst (.tup []) fun regs'=>K regs' H)→next (a.put o.dst undef) E.w:=by
  intro regs hd hk
  obtain ⟨regs',hd',hk,hdf⟩:=Zgq hd (v:=undef) (by simp only [den];exact ⟨[],rfl,trivial⟩) hk
  exact hq regs' H _ _ hk hI hd' (by rw [hdf];exact hdef) (Env.le.refl E) (fun _=>Grow.refl _) (fun _ _=>⟨rfl,rfl,rfl,Nat.le_refl _,fun _ _ _=>rfl⟩)
 unfold ZnV at hk
 split at hk
 ·rename_i hg
  rw [if_pos (by simp [Region.wanted,hg])]
  exact .inl (run hd hk)
 ·rename_i j want hg
  obtain ⟨oj,hoj,hk1⟩:=Zg3 _ hk
  clear hk
  split at hk1
  ·exact hk1.elim
  ·rename_i d hdst
   obtain ⟨sg,v,hv,hsg,hk,hrg⟩:=QY _ _ hd hk1
   clear hrg hk1
   have hy:=Zj4 hoj hdst hv
   have hwant:Region.wanted o (yielded ops a.tmps)=(Zn9 v == some want):=by
    simp only [Region.wanted,hg,hy]
   have hset:∀ (s:SV),den E s v→ZL E (regs.set d s) a.tmps.toList:=by
    intro s hs
    have h1:=ZaD _ _ hd d s v hs
    have hvs:a.tmps.toList.set d v=a.tmps.toList:=by
     apply List.ext_getElem?
     intro k
     by_cases hkd:d=k
     ·subst hkd
      have:=(List.getElem?_eq_some_iff.1 hv).1
      rw [List.getElem?_set_self this,hv]
     ·rw [List.getElem?_set_ne hkd]
    rwa [hvs] at h1
   split at hk
   ·rename_i b
    simp only [den] at hsg;subst hsg
    split at hk
    ·rename_i hb;subst hb
     rw [if_pos (by rw [hwant];simp [Zn9])]
     exact .inl (run hd hk)
    ·rename_i hb
     rw [if_neg (by rw [hwant];simp [Zn9];exact hb)]
     exact skip hd hk
   ·rename_i p
    simp only [den] at hsg;subst hsg
    by_cases hp:p=want
    ·subst hp
     rw [if_pos (by rw [hwant];simp [Zn9])]
     have hk:=hk.1 rfl
     rw [Zav] at hk
     exact .inl (run (hset _ (by simp only [den])) hk)
    ·have hp':p = !want:=by cases p<;>cases want<;>simp_all
     rw [if_neg (by rw [hwant];simp [Zn9];exact hp)]
     have hk:=hk.2 hp'
     rw [Zav] at hk
     exact skip (hset _ (by simp only [den,hp'])) hk
   ·simp only [den] at hsg
    obtain ⟨vs,hvs,hd0⟩:=hsg
    have:v=.tuple #[]:=by
     cases vs with
     | nil=>rw [hvs]
     | cons=>simp [ZL] at hd0
    rw [if_neg (by rw [hwant,this];intro h;cases h)]
    exact skip hd hk
   ·exact hk.elim
theorem ZqS {Δ:Tab} (hΔ:Δ.ok P) {Γ:Gam} (hΓ:Γ.ok P) {B:Base} (ops:Array Oper) {Q:Exit→Act→World→Prop} (o:Oper) {regs:List SV} {H:List Entry} {a:Act} {w:World} (hc:Conc B regs H a w)
  {K:List SV→List Entry→Prop} (hk:ZnV Δ Γ ops.toList o regs H K) {next:Act→World→Prop}
  (hq:∀ regs' H' a' w',K regs' H'→Conc B regs' H' a' w'→(Zeq Γ o.op=true→Grow w w')→next a' w') :
  (if Region.wanted o (yielded ops a.tmps) then o.wp P a w next Q∨(o.asks P a w∧LetsOut Q) else next (a.put o.dst undef) w):=by
 obtain ⟨E,hw,hI,hd,hdef⟩:=hc
 subst hw
 exact ZmY hΔ hΓ ops o hI hd hdef hk (fun regs' H' a' E' hk hI' hd' hdef' _ hg _=>hq regs' H' a' _ hk ⟨E',rfl,hI',hd',hdef'⟩ hg)
theorem ZoT {Δ:Tab} (hΔ:Δ.ok P) {Γ:Gam} (hΓ:Γ.ok P) {B:Base} (ops:Array Oper) {Q:Exit→Act→World→Prop}:∀ (l:List Oper) {regs:List SV} {H:List Entry} {a:Act} {w:World} (_:Conc B regs H a w)
  {K:List SV→List Entry→Prop} (_:ZsE Δ Γ ops.toList l regs H K) (_:∀ regs' H' a' w',K regs' H'→Conc B regs' H' a' w'→Q .normal a' w'),wpList P ops Q l a w
 | [],regs,H,a,w,hc,K,hk,hq=>hq _ _ _ _ hk hc
 | o::r,regs,H,a,w,hc,K,hk,hq=>by
  simp only [ZsE] at hk
  unfold wpList
  exact ZqS hΔ hΓ ops o hc hk (fun regs' H' a' w' hk' hc' _=>ZoT hΔ hΓ ops r hc' hk' hq)
def ZfL (B:Base) (E0:Env) (regs:List SV) (H:List Entry) (a:Act) (w:World):Prop :=
 ∃ E,E0.le E∧E.w=w∧Inv B E H∧ZL E regs a.tmps.toList∧a.defers=[]
theorem ZfL.Ztu {B:Base} {E0:Env} {regs:List SV} {H:List Entry} {a:Act} {w:World} (h:ZfL B E0 regs H a w):Conc B regs H a w:=by
 obtain ⟨E,_,h⟩:=h
 exact ⟨E,h⟩
theorem Zlh {Δ:Tab} (hΔ:Δ.ok P) {Γ:Gam} {B:Base} (ops:Array Oper) (o:Oper) (hl:QO o.op=true) {regs:List SV} {H:List Entry} {a:Act} {E:Env} (hI:Inv B E H) (hd:ZL E regs a.tmps.toList) (hdef:a.defers=[])
  {K:List SV→List Entry→Prop} (hk:ZnV Δ Γ ops.toList o regs H K) :
  ∃ v,((Region.wanted o (yielded ops a.tmps)=true∧∀ w',(isLoad o.op=true→Zj7 E.w w')→(execOp a.eval o).run P w'=.ok (.value v) w')∨(Region.wanted o (yielded ops a.tmps)=false∧v=undef))∧
   ∃ regs' H',K regs' H'∧ZfL B E regs' H' (a.put o.dst v) E.w:=by
 have hst:∀ (K:SV→List Entry→Prop) (regs:List SV),ZkJ Δ Γ regs H o.op K→opK Δ regs H o.op K:=by
  intro K regs h
  unfold ZkJ at h
  split at h
  ·rename_i c heq
   split at h
   ·rename_i f hcal
    rw [heq] at hl
    simp [QO,hcal] at hl
   ·exact h
  ·exact h
 have run:∀ {regs:List SV},ZL E regs a.tmps.toList→(ZkJ Δ Γ regs H o.op fun s H'=>ZnA regs o.dst s fun regs'=>K regs' H')→
   ∃ v,(∀ w',(isLoad o.op=true→Zj7 E.w w')→(execOp a.eval o).run P w'=.ok (.value v) w')∧∃ regs' H',K regs' H'∧ZfL B E regs' H' (a.put o.dst v) E.w:=by
  intro regs hd hk
  obtain ⟨nx,v,E',H',s,h1,h2,h3,h4,h5,h6,h7,_⟩:=ZoS hΔ hI hd (hst _ _ hk)
  obtain ⟨_,hw8,h8⟩:=h7 hl
  obtain ⟨regs',hd',hk,hdf⟩:=Zgq (Zr h4 _ _ hd) h5 h6
  exact ⟨v,h8,regs',H',hk,E',h4,hw8,h3,hd',by rw [hdf];exact hdef⟩
 have skip:∀ {regs:List SV},ZL E regs a.tmps.toList→(ZnA regs o.dst (.tup []) fun regs'=>K regs' H)→∃ regs' H',K regs' H'∧ZfL B E regs' H' (a.put o.dst undef) E.w:=by
  intro regs hd hk
  obtain ⟨regs',hd',hk,hdf⟩:=Zgq hd (v:=undef) (by simp only [den];exact ⟨[],rfl,trivial⟩) hk
  exact ⟨regs',H,hk,E,Env.le.refl E,rfl,hI,hd',by rw [hdf];exact hdef⟩
 unfold ZnV at hk
 split at hk
 ·rename_i hg
  obtain ⟨v,h1,h2⟩:=run hd hk
  exact ⟨v,.inl ⟨by simp [Region.wanted,hg],h1⟩,h2⟩
 ·rename_i j want hg
  obtain ⟨oj,hoj,hk1⟩:=Zg3 _ hk
  clear hk
  split at hk1
  ·exact hk1.elim
  ·rename_i d hdst
   obtain ⟨sg,v,hv,hsg,hk,hrg⟩:=QY _ _ hd hk1
   clear hrg hk1
   have hy:=Zj4 hoj hdst hv
   have hwant:Region.wanted o (yielded ops a.tmps)=(Zn9 v == some want):=by
    simp only [Region.wanted,hg,hy]
   have hset:∀ (s:SV),den E s v→ZL E (regs.set d s) a.tmps.toList:=by
    intro s hs
    have h1:=ZaD _ _ hd d s v hs
    have hvs:a.tmps.toList.set d v=a.tmps.toList:=by
     apply List.ext_getElem?
     intro k
     by_cases hkd:d=k
     ·subst hkd
      have:=(List.getElem?_eq_some_iff.1 hv).1
      rw [List.getElem?_set_self this,hv]
     ·rw [List.getElem?_set_ne hkd]
    rwa [hvs] at h1
   split at hk
   ·rename_i b
    simp only [den] at hsg;subst hsg
    split at hk
    ·rename_i hb;subst hb
     obtain ⟨v,h1,h2⟩:=run hd hk
     exact ⟨v,.inl ⟨by rw [hwant];simp [Zn9],h1⟩,h2⟩
    ·rename_i hb
     exact ⟨_,.inr ⟨by rw [hwant];simp [Zn9];exact hb,rfl⟩,skip hd hk⟩
   ·rename_i p
    simp only [den] at hsg;subst hsg
    by_cases hp:p=want
    ·subst hp
     have hk:=hk.1 rfl
     rw [Zav] at hk
     obtain ⟨v,h1,h2⟩:=run (hset _ (by simp only [den])) hk
     exact ⟨v,.inl ⟨by rw [hwant];simp [Zn9],h1⟩,h2⟩
    ·have hp':p = !want:=by cases p<;>cases want<;>simp_all
     have hk:=hk.2 hp'
     rw [Zav] at hk
     exact ⟨_,.inr ⟨by rw [hwant];simp [Zn9];exact hp,rfl⟩,skip (hset _ (by simp only [den,hp'])) hk⟩
   ·simp only [den] at hsg
    obtain ⟨vs,hvs,hd0⟩:=hsg
    have:v=.tuple #[]:=by
     cases vs with
     | nil=>rw [hvs]
     | cons=>simp [ZL] at hd0
    exact ⟨_,.inr ⟨by rw [hwant,this];rfl,rfl⟩,skip hd hk⟩
   ·exact hk.elim
theorem ZsC {Δ:Tab} (hΔ:Δ.ok P) {Γ:Gam} {B:Base} (ops:Array Oper) (o:Oper) (hl:QO o.op=true) {regs:List SV} {H:List Entry} {a:Act} {w:World} (hc:Conc B regs H a w)
  {K:List SV→List Entry→Prop} (hk:ZnV Δ Γ ops.toList o regs H K) :
  ∃ v,((Region.wanted o (yielded ops a.tmps)=true∧∀ w',(isLoad o.op=true→Zj7 w w')→(execOp a.eval o).run P w'=.ok (.value v) w')∨(Region.wanted o (yielded ops a.tmps)=false∧v=undef))∧
   ∃ regs' H',K regs' H'∧Conc B regs' H' (a.put o.dst v) w:=by
 obtain ⟨E,hw,hI,hd,hdef⟩:=hc
 subst hw
 obtain ⟨v,h1,regs',H',h2,h3⟩:=Zlh hΔ ops o hl hI hd hdef hk
 exact ⟨v,h1,regs',H',h2,h3.Ztu⟩
end
end Go.Sx
