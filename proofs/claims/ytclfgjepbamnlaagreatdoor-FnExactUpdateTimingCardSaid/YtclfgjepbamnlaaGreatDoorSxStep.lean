/-
  One operation of a region, calls among them; the operations of a region one after the other.
-/
import Derived.Test.YtclfgjepbamnlaaGreatDoorSxLoop
namespace Go.Sx
set_option linter.unusedVariables false
set_option linter.unusedSimpArgs false
structure Cal where
 run:List SV→List Entry→(SV→List Entry→Prop)→Prop
 dat:Bool
def ZsI (P:Program) (f:FuncId) (C:Cal):Prop:=Zop P f∧
 ∀ {B:Base} {E:Env} {H:List Entry},Inv B E H→∀ {ss:List SV} {vs:List Value},ZN E ss vs→∀ {K:SV→List Entry→Prop},C.run ss H K→
  Calls P f vs.toArray E.w fun e w'=>∃ v E' H' s,e=.returned v∧E'.w=w'∧Inv B E' H'∧E.le E'∧den E' s v∧K s H'∧(C.dat=true→Grow E.w w')
def Ctr.cal (C:Ctr):Cal:=⟨ZvJ C,Zb8 C.args⟩
theorem Ctr.Zxm {P:Program} {f:FuncId} {C:Ctr} (h:Za P f C):ZsI P f C.cal:=⟨h.1,fun hI _ _ hd _ hk=>Zut hI h hd hk⟩
abbrev Gam:=List (Nat×Cal)
def Gam.ok (Γ:Gam) (P:Program):Prop:=∀ x∈Γ,ZsI P x.1 x.2
def ZuJ:Gam→Nat→(Cal→Prop)→Prop
 | [],_,_=>False
 | (n,C)::r,f,K=>if n=f then K C else ZuJ r f K
def Zrj:Gam→Nat→Bool
 | [],_=>false
 | (n,C)::r,f=>if n=f then C.dat else Zrj r f
theorem Zpy {P:Program}:∀ (Γ:Gam),Γ.ok P→∀ {f:Nat} {K:Cal→Prop},ZuJ Γ f K→∃ C,ZsI P f C∧K C∧C.dat=Zrj Γ f
 | [],_,_,_,h=>h.elim
 | (n,C)::r,hΓ,f,K,h=>by
  unfold ZuJ at h
  unfold Zrj
  split at h
  ·rename_i e;subst e;exact ⟨C,hΓ (n,C) (by simp),h,by rw [if_pos rfl]⟩
  ·rename_i e;rw [if_neg e];exact Zpy r (fun x hx=>hΓ x (by simp [hx])) h
def Zhy (Γ:Gam) (op:Op):Bool:=JK op||Zjx op||match op with
 | .call c=>match c.callee with
  | .value (.func f)=>Zrj Γ f
  | _=>false
 | _=>false
def Zpc (Δ:Tab) (Γ:Gam) (regs:List SV) (H:List Entry) (op:Op) (K:SV→List Entry→Prop):Prop :=
 match op with
 | .call c=>match c.callee with
  | .value fo=>Q9 regs fo fun sf=>match sf with
   | .fn f caps=>ZuJ Γ f fun C=>Zsa regs c.args.toList fun l=>Zov l caps fun l'=>C.run l' H K
   | _=>False
  | _=>opK Δ regs H op K
 | op=>opK Δ regs H op K
def Zsr (regs:List SV) (dst:Option Tmp) (s:SV) (K:List SV→Prop):Prop :=
 match dst with
 | none=>K regs
 | some d=>Zsu regs d s K
def ZtF:List Oper→Nat→(Oper→Prop)→Prop
 | [],_,_=>False
 | o::_,0,K=>K o
 | _::r,n+1,K=>ZtF r n K
theorem ZkY:∀ (l:List Oper) {n:Nat} {K:Oper→Prop},ZtF l n K→∃ o,l[n]?=some o∧K o
 | [],_,_,h=>h.elim
 | o::_,0,K,h=>⟨o,rfl,h⟩
 | _::r,n+1,K,h=>by simpa using ZkY r (n:=n) h
def ZsG (Δ:Tab) (Γ:Gam) (ops:List Oper) (o:Oper) (regs:List SV) (H:List Entry) (K:List SV→List Entry→Prop):Prop :=
 match o.guard with
 | none=>Zpc Δ Γ regs H o.op fun s H'=>Zsr regs o.dst s fun regs'=>K regs' H'
 | some (j,want)=>ZtF ops j fun oj=>match oj.dst with
  | none=>False
  | some d=>Zls regs d fun sg=>match sg with
   | .blit b=>if b=want then Zpc Δ Γ regs H o.op fun s H'=>Zsr regs o.dst s fun regs'=>K regs' H'
     else Zsr regs o.dst (.tup []) fun regs'=>K regs' H
   | .bool p=>(p=want→Zsu regs d (.blit want) fun regs1=>Zpc Δ Γ regs1 H o.op fun s H'=>Zsr regs1 o.dst s fun regs'=>K regs' H')∧
     (p = !want→Zsu regs d (.blit (!want)) fun regs1=>Zsr regs1 o.dst (.tup []) fun regs'=>K regs' H)
   | .tup []=>Zsr regs o.dst (.tup []) fun regs'=>K regs' H
   | _=>False
def Zyu (Δ:Tab) (Γ:Gam) (ops:List Oper):List Oper→List SV→List Entry→(List SV→List Entry→Prop)→Prop
 | [],regs,H,K=>K regs H
 | o::r,regs,H,K=>ZsG Δ Γ ops o regs H fun regs' H'=>Zyu Δ Γ ops r regs' H' K
def Conc (B:Base) (regs:List SV) (H:List Entry) (a:Act) (w:World):Prop :=
 ∃ E,E.w=w∧Inv B E H∧ZN E regs a.tmps.toList∧a.defers=[]
section
variable {P:Program}
theorem Zj6 {E:Env} {regs:List SV} {a:Act} (hd:ZN E regs a.tmps.toList) {dst:Option Tmp} {s:SV} {v:Value} (hs:den E s v) {K:List SV→Prop} (hk:Zsr regs dst s K) :
  ∃ regs',ZN E regs' (a.put dst v).tmps.toList∧K regs'∧(a.put dst v).defers=a.defers:=by
 cases dst with
 | none=>exact ⟨regs,hd,hk,rfl⟩
 | some d =>
  simp only [Zsr,Zc3] at hk
  refine ⟨_,?_,hk,rfl⟩
  simp only [Act.put,Array.toList_setIfInBounds]
  exact Zdc _ _ hd d s v hs
theorem Zua {B:Base} {E:Env} {o:Oper} {a:Act} {K:SV→List Entry→Prop} (h:Ran P B E o a K) {next:Act→World→Prop} {Q:Exit→Act→World→Prop}
  (hn:∀ E' H' s v,Inv B E' H'→E.le E'→den E' s v→K s H'→((JK o.op||Zjx o.op)=true→Grow E.w E'.w)→(∀ x,appArg o.op=some x→E.w.grownBy E'.w (YS (a.eval x)))→next (a.put o.dst v) E'.w):o.wp P a E.w next Q:=by
 obtain ⟨nx,v,E',H',s,h1,h2,h3,h4,h5,h6,_,h7,h8⟩:=h
 unfold Oper.wp
 rw [h1]
 rcases h2 with rfl | ⟨rfl,rfl⟩
 ·exact hn E' H' s v h3 h4 h5 h6 h7 h8
 ·exact hn E' H' s _ h3 h4 h5 h6 h7 h8
theorem Zve {Δ:Tab} (hΔ:Δ.ok P) {Γ:Gam} (hΓ:Γ.ok P) {B:Base} {E:Env} {H:List Entry} (hI:Inv B E H) {regs:List SV} {a:Act} (hd:ZN E regs a.tmps.toList) {o:Oper} {K:SV→List Entry→Prop}
  (h:Zpc Δ Γ regs H o.op K) {next:Act→World→Prop} {Q:Exit→Act→World→Prop}
  (hn:∀ E' H' s v,Inv B E' H'→E.le E'→den E' s v→K s H'→(Zhy Γ o.op=true→Grow E.w E'.w)→(∀ x,appArg o.op=some x→E.w.grownBy E'.w (YS (a.eval x)))→next (a.put o.dst v) E'.w):o.wp P a E.w next Q:=by
 obtain ⟨dst,op,type,pos,after,guard⟩:=o
 simp only at h
 unfold Zpc at h
 split at h
 ·rename_i c
  obtain ⟨callee,args,argTypes⟩:=c
  simp only at h
  split at h
  ·rename_i fo
   obtain ⟨sf,hsf,h⟩:=Z8 hd h
   split at h
   ·rename_i f caps
    simp only [den] at hsf
    obtain ⟨cv,hfv,hcaps⟩:=hsf
    obtain ⟨C,hC,h,hda⟩:=Zpy Γ hΓ h
    obtain ⟨l,hl,h⟩:=Zjs hd _ h
    rw [Jb] at h
    have hds:=Jd _ _ hl _ _ hcaps
    have hcall:=hC.2 hI hds h
    obtain ⟨⟨fn,hf,hname,hbody⟩,_⟩:=hC
    have hrun:(execOp a.eval ⟨dst,.call ⟨.value fo,args,argTypes⟩,type,pos,after,guard⟩).run P E.w=.ok (.enter f (args.toList.map a.eval++cv).toArray) E.w:=by
     have hargs:(args.map a.eval)++cv.toArray=(args.toList.map a.eval++cv).toArray:=by
      apply Array.ext'
      simp
     simp only [execOp,resolve,hfv,Deferred.ofValue,pure_bind,invoke,Array.empty_append,hargs]
     unfold callFunc
     rw [Sem.run_bind,run_program,Result.andThen_ok,hf]
     simp only [hname,hbody,Bool.false_eq_true,if_false]
     rfl
    unfold Oper.wp
    rw [hrun]
    refine hcall.mono ?_
    rintro e w' ⟨v,E',H',s,rfl,rfl,h1,h2,h3,h4,h5⟩
    refine hn E' H' s v h1 h2 h3 h4 (fun hgr=>h5 ?_) (Zli rfl)
    rw [hda]
    cases fo with
    | func f0 =>
     simp only [Act.eval] at hfv
     injection hfv with hfv
     injection hfv with hfv
     subst hfv
     simpa [Zhy,JK,Zjx] using hgr
    | _=>simp [Zhy,JK,Zjx] at hgr
   ·exact h.elim
  ·rename_i hne
   refine Zua (ZtH hΔ hI hd h) (fun E' H' s v h1 h2 h3 h4 h5 h6=>hn E' H' s v h1 h2 h3 h4 (fun hgr=>h5 ?_) h6)
   cases callee with
   | value f=>exact absurd rfl (hne f)
   | _=>simpa [Zhy,Zjx] using hgr
 ·rename_i hne
  refine Zua (ZtH hΔ hI hd h) (fun E' H' s v h1 h2 h3 h4 h5 h6=>hn E' H' s v h1 h2 h3 h4 (fun hgr=>h5 ?_) h6)
  cases op with
  | call c=>exact absurd rfl (hne c)
  | _=>first | rfl | exact hgr | (simp [Zhy,JK,Zjx] at hgr ⊢)
def ZsV:Value→Option Bool
 | .bool b=>some b
 | _=>none
theorem Zoo {ops:Array Oper} {a:Act} {j d:Nat} {oj:Oper} {v:Value} (ho:ops.toList[j]?=some oj) (hd:oj.dst=some d) (hv:a.tmps.toList[d]?=some v) :
  yielded ops a.tmps j=ZsV v:=by
 have ho':ops[j]?=some oj:=by simpa using ho
 have hv':a.tmps[d]?=some v:=by simpa using hv
 unfold yielded
 rw [ho',Option.bind_some,hd,Option.bind_some,hv']
 cases v<;>rfl
theorem ZrJ {Δ:Tab} (hΔ:Δ.ok P) {Γ:Gam} (hΓ:Γ.ok P) {B:Base} (ops:Array Oper) {Q:Exit→Act→World→Prop} (o:Oper) {regs:List SV} {H:List Entry} {a:Act} {E:Env} (hI:Inv B E H) (hd:ZN E regs a.tmps.toList) (hdef:a.defers=[])
  {K:List SV→List Entry→Prop} (hk:ZsG Δ Γ ops.toList o regs H K) {next:Act→World→Prop}
  (hq:∀ regs' H' a' E',K regs' H'→Inv B E' H'→ZN E' regs' a'.tmps.toList→a'.defers=[]→E.le E'→(Zhy Γ o.op=true→Grow E.w E'.w)→(∀ x,appArg o.op=some x→E.w.grownBy E'.w (YS (a.eval x)))→next a' E'.w) :
  (if Region.wanted o (yielded ops a.tmps) then o.wp P a E.w next Q∨(o.asks P a E.w∧LetsOut Q) else next (a.put o.dst undef) E.w):=by
 have run:∀ {regs:List SV},ZN E regs a.tmps.toList→(Zpc Δ Γ regs H o.op fun s H'=>Zsr regs o.dst s fun regs'=>K regs' H')→o.wp P a E.w next Q:=by
  intro regs hd hk
  refine Zve hΔ hΓ hI hd hk (fun E' H' s v hI' hle hs hk hg hap=>?_)
  obtain ⟨regs',hd',hk,hdf⟩:=Zj6 (Zz hle _ _ hd) hs hk
  exact hq regs' H' _ _ hk hI' hd' (by rw [hdf];exact hdef) hle hg hap
 have skip:∀ {regs:List SV},ZN E regs a.tmps.toList→(Zsr regs o.dst (.tup []) fun regs'=>K regs' H)→next (a.put o.dst undef) E.w:=by
  intro regs hd hk
  obtain ⟨regs',hd',hk,hdf⟩:=Zj6 hd (v:=undef) (by simp only [den];exact ⟨[],rfl,trivial⟩) hk
  exact hq regs' H _ _ hk hI hd' (by rw [hdf];exact hdef) (Env.le.refl E) (fun _=>Grow.refl _) (fun _ _=>⟨rfl,rfl,rfl,Nat.le_refl _,fun _ _ _=>rfl⟩)
 unfold ZsG at hk
 split at hk
 ·rename_i hg
  rw [if_pos (by simp [Region.wanted,hg])]
  exact .inl (run hd hk)
 ·rename_i j want hg
  obtain ⟨oj,hoj,hk1⟩:=ZkY _ hk
  clear hk
  split at hk1
  ·exact hk1.elim
  ·rename_i d hdst
   obtain ⟨sg,v,hv,hsg,hk,hrg⟩:=J4 _ _ hd hk1
   clear hrg hk1
   have hy:=Zoo hoj hdst hv
   have hwant:Region.wanted o (yielded ops a.tmps)=(ZsV v == some want):=by
    simp only [Region.wanted,hg,hy]
   have hset:∀ (s:SV),den E s v→ZN E (regs.set d s) a.tmps.toList:=by
    intro s hs
    have h1:=Zdc _ _ hd d s v hs
    have hvs:a.tmps.toList.set d v=a.tmps.toList:=by
     apply List.ext_getElem?
     intro k
     by_cases hkd:d=k
     ·subst hkd
      have:=(List.getElem?_eq_some_iff.1 hv).1
      rw [List.getElem?_set_self this,hv]
     ·rw [List.getElem?_set_ne hkd]
    rwa [hvs] at h1
   split at hk
   ·rename_i b
    simp only [den] at hsg;subst hsg
    split at hk
    ·rename_i hb;subst hb
     rw [if_pos (by rw [hwant];simp [ZsV])]
     exact .inl (run hd hk)
    ·rename_i hb
     rw [if_neg (by rw [hwant];simp [ZsV];exact hb)]
     exact skip hd hk
   ·rename_i p
    simp only [den] at hsg;subst hsg
    by_cases hp:p=want
    ·subst hp
     rw [if_pos (by rw [hwant];simp [ZsV])]
     have hk:=hk.1 rfl
     rw [Zc3] at hk
     exact .inl (run (hset _ (by simp only [den])) hk)
    ·have hp':p = !want:=by cases p<;>cases want<;>simp_all
     rw [if_neg (by rw [hwant];simp [ZsV];exact hp)]
     have hk:=hk.2 hp'
     rw [Zc3] at hk
     exact skip (hset _ (by simp only [den,hp'])) hk
   ·simp only [den] at hsg
    obtain ⟨vs,hvs,hd0⟩:=hsg
    have:v=.tuple #[]:=by
     cases vs with
     | nil=>rw [hvs]
     | cons=>simp [ZN] at hd0
    rw [if_neg (by rw [hwant,this];intro h;cases h)]
    exact skip hd hk
   ·exact hk.elim
theorem Zv8 {Δ:Tab} (hΔ:Δ.ok P) {Γ:Gam} (hΓ:Γ.ok P) {B:Base} (ops:Array Oper) {Q:Exit→Act→World→Prop} (o:Oper) {regs:List SV} {H:List Entry} {a:Act} {w:World} (hc:Conc B regs H a w)
  {K:List SV→List Entry→Prop} (hk:ZsG Δ Γ ops.toList o regs H K) {next:Act→World→Prop}
  (hq:∀ regs' H' a' w',K regs' H'→Conc B regs' H' a' w'→(Zhy Γ o.op=true→Grow w w')→next a' w') :
  (if Region.wanted o (yielded ops a.tmps) then o.wp P a w next Q∨(o.asks P a w∧LetsOut Q) else next (a.put o.dst undef) w):=by
 obtain ⟨E,hw,hI,hd,hdef⟩:=hc
 subst hw
 exact ZrJ hΔ hΓ ops o hI hd hdef hk (fun regs' H' a' E' hk hI' hd' hdef' _ hg _=>hq regs' H' a' _ hk ⟨E',rfl,hI',hd',hdef'⟩ hg)
theorem ZtI {Δ:Tab} (hΔ:Δ.ok P) {Γ:Gam} (hΓ:Γ.ok P) {B:Base} (ops:Array Oper) {Q:Exit→Act→World→Prop}:∀ (l:List Oper) {regs:List SV} {H:List Entry} {a:Act} {w:World} (_:Conc B regs H a w)
  {K:List SV→List Entry→Prop} (_:Zyu Δ Γ ops.toList l regs H K) (_:∀ regs' H' a' w',K regs' H'→Conc B regs' H' a' w'→Q .normal a' w'),wpList P ops Q l a w
 | [],regs,H,a,w,hc,K,hk,hq=>hq _ _ _ _ hk hc
 | o::r,regs,H,a,w,hc,K,hk,hq=>by
  simp only [Zyu] at hk
  unfold wpList
  exact Zv8 hΔ hΓ ops o hc hk (fun regs' H' a' w' hk' hc' _=>ZtI hΔ hΓ ops r hc' hk' hq)
def Zjf (B:Base) (E0:Env) (regs:List SV) (H:List Entry) (a:Act) (w:World):Prop :=
 ∃ E,E0.le E∧E.w=w∧Inv B E H∧ZN E regs a.tmps.toList∧a.defers=[]
theorem Zjf.ZAf {B:Base} {E0:Env} {regs:List SV} {H:List Entry} {a:Act} {w:World} (h:Zjf B E0 regs H a w):Conc B regs H a w:=by
 obtain ⟨E,_,h⟩:=h
 exact ⟨E,h⟩
theorem ZpJ {Δ:Tab} (hΔ:Δ.ok P) {Γ:Gam} {B:Base} (ops:Array Oper) (o:Oper) (hl:JK o.op=true) {regs:List SV} {H:List Entry} {a:Act} {E:Env} (hI:Inv B E H) (hd:ZN E regs a.tmps.toList) (hdef:a.defers=[])
  {K:List SV→List Entry→Prop} (hk:ZsG Δ Γ ops.toList o regs H K) :
  ∃ v,((Region.wanted o (yielded ops a.tmps)=true∧∀ w',(isLoad o.op=true→Zor E.w w')→(execOp a.eval o).run P w'=.ok (.value v) w')∨(Region.wanted o (yielded ops a.tmps)=false∧v=undef))∧
   ∃ regs' H',K regs' H'∧Zjf B E regs' H' (a.put o.dst v) E.w:=by
 have hst:∀ (K:SV→List Entry→Prop) (regs:List SV),Zpc Δ Γ regs H o.op K→opK Δ regs H o.op K:=by
  intro K regs h
  unfold Zpc at h
  split at h
  ·rename_i c heq
   split at h
   ·rename_i f hcal
    rw [heq] at hl
    simp [JK,hcal] at hl
   ·exact h
  ·exact h
 have run:∀ {regs:List SV},ZN E regs a.tmps.toList→(Zpc Δ Γ regs H o.op fun s H'=>Zsr regs o.dst s fun regs'=>K regs' H')→
   ∃ v,(∀ w',(isLoad o.op=true→Zor E.w w')→(execOp a.eval o).run P w'=.ok (.value v) w')∧∃ regs' H',K regs' H'∧Zjf B E regs' H' (a.put o.dst v) E.w:=by
  intro regs hd hk
  obtain ⟨nx,v,E',H',s,h1,h2,h3,h4,h5,h6,h7,_⟩:=ZtH hΔ hI hd (hst _ _ hk)
  obtain ⟨_,hw8,h8⟩:=h7 hl
  obtain ⟨regs',hd',hk,hdf⟩:=Zj6 (Zz h4 _ _ hd) h5 h6
  exact ⟨v,h8,regs',H',hk,E',h4,hw8,h3,hd',by rw [hdf];exact hdef⟩
 have skip:∀ {regs:List SV},ZN E regs a.tmps.toList→(Zsr regs o.dst (.tup []) fun regs'=>K regs' H)→∃ regs' H',K regs' H'∧Zjf B E regs' H' (a.put o.dst undef) E.w:=by
  intro regs hd hk
  obtain ⟨regs',hd',hk,hdf⟩:=Zj6 hd (v:=undef) (by simp only [den];exact ⟨[],rfl,trivial⟩) hk
  exact ⟨regs',H,hk,E,Env.le.refl E,rfl,hI,hd',by rw [hdf];exact hdef⟩
 unfold ZsG at hk
 split at hk
 ·rename_i hg
  obtain ⟨v,h1,h2⟩:=run hd hk
  exact ⟨v,.inl ⟨by simp [Region.wanted,hg],h1⟩,h2⟩
 ·rename_i j want hg
  obtain ⟨oj,hoj,hk1⟩:=ZkY _ hk
  clear hk
  split at hk1
  ·exact hk1.elim
  ·rename_i d hdst
   obtain ⟨sg,v,hv,hsg,hk,hrg⟩:=J4 _ _ hd hk1
   clear hrg hk1
   have hy:=Zoo hoj hdst hv
   have hwant:Region.wanted o (yielded ops a.tmps)=(ZsV v == some want):=by
    simp only [Region.wanted,hg,hy]
   have hset:∀ (s:SV),den E s v→ZN E (regs.set d s) a.tmps.toList:=by
    intro s hs
    have h1:=Zdc _ _ hd d s v hs
    have hvs:a.tmps.toList.set d v=a.tmps.toList:=by
     apply List.ext_getElem?
     intro k
     by_cases hkd:d=k
     ·subst hkd
      have:=(List.getElem?_eq_some_iff.1 hv).1
      rw [List.getElem?_set_self this,hv]
     ·rw [List.getElem?_set_ne hkd]
    rwa [hvs] at h1
   split at hk
   ·rename_i b
    simp only [den] at hsg;subst hsg
    split at hk
    ·rename_i hb;subst hb
     obtain ⟨v,h1,h2⟩:=run hd hk
     exact ⟨v,.inl ⟨by rw [hwant];simp [ZsV],h1⟩,h2⟩
    ·rename_i hb
     exact ⟨_,.inr ⟨by rw [hwant];simp [ZsV];exact hb,rfl⟩,skip hd hk⟩
   ·rename_i p
    simp only [den] at hsg;subst hsg
    by_cases hp:p=want
    ·subst hp
     have hk:=hk.1 rfl
     rw [Zc3] at hk
     obtain ⟨v,h1,h2⟩:=run (hset _ (by simp only [den])) hk
     exact ⟨v,.inl ⟨by rw [hwant];simp [ZsV],h1⟩,h2⟩
    ·have hp':p = !want:=by cases p<;>cases want<;>simp_all
     have hk:=hk.2 hp'
     rw [Zc3] at hk
     exact ⟨_,.inr ⟨by rw [hwant];simp [ZsV];exact hp,rfl⟩,skip (hset _ (by simp only [den,hp'])) hk⟩
   ·simp only [den] at hsg
    obtain ⟨vs,hvs,hd0⟩:=hsg
    have:v=.tuple #[]:=by
     cases vs with
     | nil=>rw [hvs]
     | cons=>simp [ZN] at hd0
    exact ⟨_,.inr ⟨by rw [hwant,this];rfl,rfl⟩,skip hd hk⟩
   ·exact hk.elim
theorem Zys {Δ:Tab} (hΔ:Δ.ok P) {Γ:Gam} {B:Base} (ops:Array Oper) (o:Oper) (hl:JK o.op=true) {regs:List SV} {H:List Entry} {a:Act} {w:World} (hc:Conc B regs H a w)
  {K:List SV→List Entry→Prop} (hk:ZsG Δ Γ ops.toList o regs H K) :
  ∃ v,((Region.wanted o (yielded ops a.tmps)=true∧∀ w',(isLoad o.op=true→Zor w w')→(execOp a.eval o).run P w'=.ok (.value v) w')∨(Region.wanted o (yielded ops a.tmps)=false∧v=undef))∧
   ∃ regs' H',K regs' H'∧Conc B regs' H' (a.put o.dst v) w:=by
 obtain ⟨E,hw,hI,hd,hdef⟩:=hc
 subst hw
 obtain ⟨v,h1,regs',H',h2,h3⟩:=ZpJ hΔ ops o hl hI hd hdef hk
 exact ⟨v,h1,regs',H',h2,h3.ZAf⟩
end
end Go.Sx
