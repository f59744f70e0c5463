/-
  One operation of a region, calls among them; the operations of a region one after the other.
-/
import Derived.Test.YtpkjjgdhmafonaaGreatDoorSxLoop
namespace Go.Sx
set_option linter.unusedVariables false
set_option linter.unusedSimpArgs false
abbrev Gam:=List (Nat×Ctr)
def Gam.ok (Γ:Gam) (P:Program):Prop:=∀ x∈Γ,SoundC P x.1 x.2
def glook:Gam→Nat→(Ctr→Prop)→Prop
 | [],_,_=>False
 | (n,C)::r,f,K=>if n=f then K C else glook r f K
theorem glook_ok {P:Program}:∀ (Γ:Gam),Γ.ok P→∀ {f:Nat} {K:Ctr→Prop},glook Γ f K→∃ C,SoundC P f C∧K C
 | [],_,_,_,h=>h.elim
 | (n,C)::r,hΓ,f,K,h=>by
  unfold glook at h
  split at h
  ·rename_i e;subst e;exact ⟨C,hΓ (n,C) (by simp),h⟩
  ·exact glook_ok r (fun x hx=>hΓ x (by simp [hx])) h
def glookB:Gam→Nat→Bool
 | [],_=>false
 | (n,C)::r,f=>if n=f then datArgs C.args else glookB r f
theorem glook_ok' {P:Program}:∀ (Γ:Gam),Γ.ok P→∀ {f:Nat} {K:Ctr→Prop},glook Γ f K→∃ C,SoundC P f C∧K C∧datArgs C.args=glookB Γ f
 | [],_,_,_,h=>h.elim
 | (n,C)::r,hΓ,f,K,h=>by
  unfold glook at h
  unfold glookB
  split at h
  ·rename_i e;subst e;exact ⟨C,hΓ (n,C) (by simp),h,by rw [if_pos rfl]⟩
  ·rename_i e;rw [if_neg e];exact glook_ok' r (fun x hx=>hΓ x (by simp [hx])) h
def growsK (Γ:Gam) (op:Op):Bool:=lightOp op||growOp op||match op with
 | .call c=>match c.callee with
  | .value (.func f)=>glookB Γ f
  | _=>false
 | _=>false
def stepK (Δ:Tab) (Γ:Gam) (regs:List SV) (H:List Entry) (op:Op) (K:SV→List Entry→Prop):Prop :=
 match op with
 | .call c=>match c.callee with
  | .value fo=>evalO regs fo fun sf=>match sf with
   | .fn f caps=>glook Γ f fun C=>evalL regs c.args.toList fun l=>appR l caps fun l'=>callK C l' H K
   | _=>False
  | _=>opK Δ regs H op K
 | op=>opK Δ regs H op K
def putK (regs:List SV) (dst:Option Tmp) (s:SV) (K:List SV→Prop):Prop :=
 match dst with
 | none=>K regs
 | some d=>setR regs d s K
def nthO:List Oper→Nat→(Oper→Prop)→Prop
 | [],_,_=>False
 | o::_,0,K=>K o
 | _::r,n+1,K=>nthO r n K
theorem nthO_ok:∀ (l:List Oper) {n:Nat} {K:Oper→Prop},nthO l n K→∃ o,l[n]?=some o∧K o
 | [],_,_,h=>h.elim
 | o::_,0,K,h=>⟨o,rfl,h⟩
 | _::r,n+1,K,h=>by simpa using nthO_ok r (n:=n) h
def oneK (Δ:Tab) (Γ:Gam) (ops:List Oper) (o:Oper) (regs:List SV) (H:List Entry) (K:List SV→List Entry→Prop):Prop :=
 match o.guard with
 | none=>stepK Δ Γ regs H o.op fun s H'=>putK regs o.dst s fun regs'=>K regs' H'
 | some (j,want)=>nthO ops j fun oj=>match oj.dst with
  | none=>False
  | some d=>getR regs d fun sg=>match sg with
   | .blit b=>if b=want then stepK Δ Γ regs H o.op fun s H'=>putK regs o.dst s fun regs'=>K regs' H'
     else putK regs o.dst (.tup []) fun regs'=>K regs' H
   | .bool p=>(p=want→setR regs d (.blit want) fun regs1=>stepK Δ Γ regs1 H o.op fun s H'=>putK regs1 o.dst s fun regs'=>K regs' H')∧
     (p = !want→setR regs d (.blit (!want)) fun regs1=>putK regs1 o.dst (.tup []) fun regs'=>K regs' H)
   | .tup []=>putK regs o.dst (.tup []) fun regs'=>K regs' H
   | _=>False
def opsK (Δ:Tab) (Γ:Gam) (ops:List Oper):List Oper→List SV→List Entry→(List SV→List Entry→Prop)→Prop
 | [],regs,H,K=>K regs H
 | o::r,regs,H,K=>oneK Δ Γ ops o regs H fun regs' H'=>opsK Δ Γ ops r regs' H' K
def Conc (B:Base) (regs:List SV) (H:List Entry) (a:Act) (w:World):Prop :=
 ∃ E,E.w=w∧Inv B E H∧dens E regs a.tmps.toList∧a.defers=[]
section
variable {P:Program}
theorem put_dens {E:Env} {regs:List SV} {a:Act} (hd:dens E regs a.tmps.toList) {dst:Option Tmp} {s:SV} {v:Value} (hs:den E s v) {K:List SV→Prop} (hk:putK regs dst s K) :
  ∃ regs',dens E regs' (a.put dst v).tmps.toList∧K regs'∧(a.put dst v).defers=a.defers:=by
 cases dst with
 | none=>exact ⟨regs,hd,hk,rfl⟩
 | some d =>
  simp only [putK,setR_eq] at hk
  refine ⟨_,?_,hk,rfl⟩
  simp only [Act.put,Array.toList_setIfInBounds]
  exact dens_set _ _ hd d s v hs
theorem upon_ok {B:Base} {E:Env} {o:Oper} {a:Act} {K:SV→List Entry→Prop} (h:Ran P B E o a K) {next:Act→World→Prop} {Q:Exit→Act→World→Prop}
  (hn:∀ E' H' s v,Inv B E' H'→E.le E'→den E' s v→K s H'→((lightOp o.op||growOp o.op)=true→Grow E.w E'.w)→next (a.put o.dst v) E'.w):o.wp P a E.w next Q:=by
 obtain ⟨nx,v,E',H',s,h1,h2,h3,h4,h5,h6,_,h7⟩:=h
 unfold Oper.wp
 rw [h1]
 rcases h2 with rfl | ⟨rfl,rfl⟩
 ·exact hn E' H' s v h3 h4 h5 h6 h7
 ·exact hn E' H' s _ h3 h4 h5 h6 h7
theorem stepK_ok {Δ:Tab} (hΔ:Δ.ok P) {Γ:Gam} (hΓ:Γ.ok P) {B:Base} {E:Env} {H:List Entry} (hI:Inv B E H) {regs:List SV} {a:Act} (hd:dens E regs a.tmps.toList) {o:Oper} {K:SV→List Entry→Prop}
  (h:stepK Δ Γ regs H o.op K) {next:Act→World→Prop} {Q:Exit→Act→World→Prop}
  (hn:∀ E' H' s v,Inv B E' H'→E.le E'→den E' s v→K s H'→(growsK Γ o.op=true→Grow E.w E'.w)→next (a.put o.dst v) E'.w):o.wp P a E.w next Q:=by
 obtain ⟨dst,op,type,pos,after,guard⟩:=o
 simp only at h
 unfold stepK at h
 split at h
 ·rename_i c
  obtain ⟨callee,args,argTypes⟩:=c
  simp only at h
  split at h
  ·rename_i fo
   obtain ⟨sf,hsf,h⟩:=evalO_ok hd h
   split at h
   ·rename_i f caps
    simp only [den] at hsf
    obtain ⟨cv,hfv,hcaps⟩:=hsf
    obtain ⟨C,hC,h,hda⟩:=glook_ok' Γ hΓ h
    obtain ⟨l,hl,h⟩:=evalL_ok hd _ h
    rw [appR_eq] at h
    have hds:=dens_append _ _ hl _ _ hcaps
    have hcall:=callK_ok hI hC hds h
    obtain ⟨⟨fn,hf,hname,hbody⟩,_⟩:=hC
    have hrun:(execOp a.eval ⟨dst,.call ⟨.value fo,args,argTypes⟩,type,pos,after,guard⟩).run P E.w=.ok (.enter f (args.toList.map a.eval++cv).toArray) E.w:=by
     have hargs:(args.map a.eval)++cv.toArray=(args.toList.map a.eval++cv).toArray:=by
      apply Array.ext'
      simp
     simp only [execOp,resolve,hfv,Deferred.ofValue,pure_bind,invoke,Array.empty_append,hargs]
     unfold callFunc
     rw [Sem.run_bind,run_program,Result.andThen_ok,hf]
     simp only [hname,hbody,Bool.false_eq_true,if_false]
     rfl
    unfold Oper.wp
    rw [hrun]
    refine hcall.mono ?_
    rintro e w' ⟨v,E',H',s,rfl,rfl,h1,h2,h3,h4,h5⟩
    refine hn E' H' s v h1 h2 h3 h4 (fun hgr=>h5 ?_)
    rw [hda]
    cases fo with
    | func f0 =>
     simp only [Act.eval] at hfv
     injection hfv with hfv
     injection hfv with hfv
     subst hfv
     simpa [growsK,lightOp,growOp] using hgr
    | _=>simp [growsK,lightOp,growOp] at hgr
   ·exact h.elim
  ·rename_i hne
   refine upon_ok (opK_ok hΔ hI hd h) (fun E' H' s v h1 h2 h3 h4 h5=>hn E' H' s v h1 h2 h3 h4 (fun hgr=>h5 ?_))
   cases callee with
   | value f=>exact absurd rfl (hne f)
   | _=>simpa [growsK,growOp] using hgr
 ·rename_i hne
  refine upon_ok (opK_ok hΔ hI hd h) (fun E' H' s v h1 h2 h3 h4 h5=>hn E' H' s v h1 h2 h3 h4 (fun hgr=>h5 ?_))
  cases op with
  | call c=>exact absurd rfl (hne c)
  | _=>first | rfl | exact hgr | (simp [growsK,lightOp,growOp] at hgr ⊢)
def bval:Value→Option Bool
 | .bool b=>some b
 | _=>none
theorem yielded_of {ops:Array Oper} {a:Act} {j d:Nat} {oj:Oper} {v:Value} (ho:ops.toList[j]?=some oj) (hd:oj.dst=some d) (hv:a.tmps.toList[d]?=some v) :
  yielded ops a.tmps j=bval v:=by
 have ho':ops[j]?=some oj:=by simpa using ho
 have hv':a.tmps[d]?=some v:=by simpa using hv
 unfold yielded
 rw [ho',Option.bind_some,hd,Option.bind_some,hv']
 cases v<;>rfl
theorem oneK_ok {Δ:Tab} (hΔ:Δ.ok P) {Γ:Gam} (hΓ:Γ.ok P) {B:Base} (ops:Array Oper) {Q:Exit→Act→World→Prop} (o:Oper) {regs:List SV} {H:List Entry} {a:Act} {w:World} (hc:Conc B regs H a w)
  {K:List SV→List Entry→Prop} (hk:oneK Δ Γ ops.toList o regs H K) {next:Act→World→Prop}
  (hq:∀ regs' H' a' w',K regs' H'→Conc B regs' H' a' w'→(growsK Γ o.op=true→Grow w w')→next a' w') :
  (if Region.wanted o (yielded ops a.tmps) then o.wp P a w next Q∨(o.asks P a w∧LetsOut Q) else next (a.put o.dst undef) w):=by
 obtain ⟨E,hw,hI,hd,hdef⟩:=hc
 subst hw
 have run:∀ {regs:List SV},dens E regs a.tmps.toList→(stepK Δ Γ regs H o.op fun s H'=>putK regs o.dst s fun regs'=>K regs' H')→o.wp P a E.w next Q:=by
  intro regs hd hk
  refine stepK_ok hΔ hΓ hI hd hk (fun E' H' s v hI' hle hs hk hg=>?_)
  obtain ⟨regs',hd',hk,hdf⟩:=put_dens (dens_mono hle _ _ hd) hs hk
  exact hq regs' H' _ _ hk ⟨E',rfl,hI',hd',by rw [hdf];exact hdef⟩ hg
 have skip:∀ {regs:List SV},dens E regs a.tmps.toList→(putK regs o.dst (.tup []) fun regs'=>K regs' H)→next (a.put o.dst undef) E.w:=by
  intro regs hd hk
  obtain ⟨regs',hd',hk,hdf⟩:=put_dens hd (v:=undef) (by simp only [den];exact ⟨[],rfl,trivial⟩) hk
  exact hq regs' H _ _ hk ⟨E,rfl,hI,hd',by rw [hdf];exact hdef⟩ (fun _=>Grow.refl _)
 unfold oneK at hk
 split at hk
 ·rename_i hg
  rw [if_pos (by simp [Region.wanted,hg])]
  exact .inl (run hd hk)
 ·rename_i j want hg
  obtain ⟨oj,hoj,hk1⟩:=nthO_ok _ hk
  clear hk
  split at hk1
  ·exact hk1.elim
  ·rename_i d hdst
   obtain ⟨sg,v,hv,hsg,hk,hrg⟩:=getR_ok _ _ hd hk1
   clear hrg hk1
   have hy:=yielded_of hoj hdst hv
   have hwant:Region.wanted o (yielded ops a.tmps)=(bval v == some want):=by
    simp only [Region.wanted,hg,hy]
   have hset:∀ (s:SV),den E s v→dens E (regs.set d s) a.tmps.toList:=by
    intro s hs
    have h1:=dens_set _ _ hd d s v hs
    have hvs:a.tmps.toList.set d v=a.tmps.toList:=by
     apply List.ext_getElem?
     intro k
     by_cases hkd:d=k
     ·subst hkd
      have:=(List.getElem?_eq_some_iff.1 hv).1
      rw [List.getElem?_set_self this,hv]
     ·rw [List.getElem?_set_ne hkd]
    rwa [hvs] at h1
   split at hk
   ·rename_i b
    simp only [den] at hsg;subst hsg
    split at hk
    ·rename_i hb;subst hb
     rw [if_pos (by rw [hwant];simp [bval])]
     exact .inl (run hd hk)
    ·rename_i hb
     rw [if_neg (by rw [hwant];simp [bval];exact hb)]
     exact skip hd hk
   ·rename_i p
    simp only [den] at hsg;subst hsg
    by_cases hp:p=want
    ·subst hp
     rw [if_pos (by rw [hwant];simp [bval])]
     have hk:=hk.1 rfl
     rw [setR_eq] at hk
     exact .inl (run (hset _ (by simp only [den])) hk)
    ·have hp':p = !want:=by cases p<;>cases want<;>simp_all
     rw [if_neg (by rw [hwant];simp [bval];exact hp)]
     have hk:=hk.2 hp'
     rw [setR_eq] at hk
     exact skip (hset _ (by simp only [den,hp'])) hk
   ·simp only [den] at hsg
    obtain ⟨vs,hvs,hd0⟩:=hsg
    have:v=.tuple #[]:=by
     cases vs with
     | nil=>rw [hvs]
     | cons=>simp [dens] at hd0
    rw [if_neg (by rw [hwant,this];intro h;cases h)]
    exact skip hd hk
   ·exact hk.elim
theorem opsK_ok {Δ:Tab} (hΔ:Δ.ok P) {Γ:Gam} (hΓ:Γ.ok P) {B:Base} (ops:Array Oper) {Q:Exit→Act→World→Prop}:∀ (l:List Oper) {regs:List SV} {H:List Entry} {a:Act} {w:World} (_:Conc B regs H a w)
  {K:List SV→List Entry→Prop} (_:opsK Δ Γ ops.toList l regs H K) (_:∀ regs' H' a' w',K regs' H'→Conc B regs' H' a' w'→Q .normal a' w'),wpList P ops Q l a w
 | [],regs,H,a,w,hc,K,hk,hq=>hq _ _ _ _ hk hc
 | o::r,regs,H,a,w,hc,K,hk,hq=>by
  simp only [opsK] at hk
  unfold wpList
  exact oneK_ok hΔ hΓ ops o hc hk (fun regs' H' a' w' hk' hc' _=>opsK_ok hΔ hΓ ops r hc' hk' hq)
theorem light_ok {Δ:Tab} (hΔ:Δ.ok P) {Γ:Gam} {B:Base} (ops:Array Oper) (o:Oper) (hl:lightOp o.op=true) {regs:List SV} {H:List Entry} {a:Act} {w:World} (hc:Conc B regs H a w)
  {K:List SV→List Entry→Prop} (hk:oneK Δ Γ ops.toList o regs H K) :
  ∃ v,((Region.wanted o (yielded ops a.tmps)=true∧∀ w',(isLoad o.op=true→Stab w w')→(execOp a.eval o).run P w'=.ok (.value v) w')∨(Region.wanted o (yielded ops a.tmps)=false∧v=undef))∧
   ∃ regs' H',K regs' H'∧Conc B regs' H' (a.put o.dst v) w:=by
 obtain ⟨E,hw,hI,hd,hdef⟩:=hc
 subst hw
 have hst:∀ (K:SV→List Entry→Prop) (regs:List SV),stepK Δ Γ regs H o.op K→opK Δ regs H o.op K:=by
  intro K regs h
  unfold stepK at h
  split at h
  ·rename_i c heq
   split at h
   ·rename_i f hcal
    rw [heq] at hl
    simp [lightOp,hcal] at hl
   ·exact h
  ·exact h
 have run:∀ {regs:List SV},dens E regs a.tmps.toList→(stepK Δ Γ regs H o.op fun s H'=>putK regs o.dst s fun regs'=>K regs' H')→
   ∃ v,(∀ w',(isLoad o.op=true→Stab E.w w')→(execOp a.eval o).run P w'=.ok (.value v) w')∧∃ regs' H',K regs' H'∧Conc B regs' H' (a.put o.dst v) E.w:=by
  intro regs hd hk
  obtain ⟨nx,v,E',H',s,h1,h2,h3,h4,h5,h6,h7,_⟩:=opK_ok hΔ hI hd (hst _ _ hk)
  obtain ⟨_,hw8,h8⟩:=h7 hl
  obtain ⟨regs',hd',hk,hdf⟩:=put_dens (dens_mono h4 _ _ hd) h5 h6
  exact ⟨v,h8,regs',H',hk,E',hw8,h3,hd',by rw [hdf];exact hdef⟩
 have skip:∀ {regs:List SV},dens E regs a.tmps.toList→(putK regs o.dst (.tup []) fun regs'=>K regs' H)→∃ regs' H',K regs' H'∧Conc B regs' H' (a.put o.dst undef) E.w:=by
  intro regs hd hk
  obtain ⟨regs',hd',hk,hdf⟩:=put_dens hd (v:=undef) (by simp only [den];exact ⟨[],rfl,trivial⟩) hk
  exact ⟨regs',H,hk,E,rfl,hI,hd',by rw [hdf];exact hdef⟩
 unfold oneK at hk
 split at hk
 ·rename_i hg
  obtain ⟨v,h1,h2⟩:=run hd hk
  exact ⟨v,.inl ⟨by simp [Region.wanted,hg],h1⟩,h2⟩
 ·rename_i j want hg
  obtain ⟨oj,hoj,hk1⟩:=nthO_ok _ hk
  clear hk
  split at hk1
  ·exact hk1.elim
  ·rename_i d hdst
   obtain ⟨sg,v,hv,hsg,hk,hrg⟩:=getR_ok _ _ hd hk1
   clear hrg hk1
   have hy:=yielded_of hoj hdst hv
   have hwant:Region.wanted o (yielded ops a.tmps)=(bval v == some want):=by
    simp only [Region.wanted,hg,hy]
   have hset:∀ (s:SV),den E s v→dens E (regs.set d s) a.tmps.toList:=by
    intro s hs
    have h1:=dens_set _ _ hd d s v hs
    have hvs:a.tmps.toList.set d v=a.tmps.toList:=by
     apply List.ext_getElem?
     intro k
     by_cases hkd:d=k
     ·subst hkd
      have:=(List.getElem?_eq_some_iff.1 hv).1
      rw [List.getElem?_set_self this,hv]
     ·rw [List.getElem?_set_ne hkd]
    rwa [hvs] at h1
   split at hk
   ·rename_i b
    simp only [den] at hsg;subst hsg
    split at hk
    ·rename_i hb;subst hb
     obtain ⟨v,h1,h2⟩:=run hd hk
     exact ⟨v,.inl ⟨by rw [hwant];simp [bval],h1⟩,h2⟩
    ·rename_i hb
     exact ⟨_,.inr ⟨by rw [hwant];simp [bval];exact hb,rfl⟩,skip hd hk⟩
   ·rename_i p
    simp only [den] at hsg;subst hsg
    by_cases hp:p=want
    ·subst hp
     have hk:=hk.1 rfl
     rw [setR_eq] at hk
     obtain ⟨v,h1,h2⟩:=run (hset _ (by simp only [den])) hk
     exact ⟨v,.inl ⟨by rw [hwant];simp [bval],h1⟩,h2⟩
    ·have hp':p = !want:=by cases p<;>cases want<;>simp_all
     have hk:=hk.2 hp'
     rw [setR_eq] at hk
     exact ⟨_,.inr ⟨by rw [hwant];simp [bval];exact hp,rfl⟩,skip (hset _ (by simp only [den,hp'])) hk⟩
   ·simp only [den] at hsg
    obtain ⟨vs,hvs,hd0⟩:=hsg
    have:v=.tuple #[]:=by
     cases vs with
     | nil=>rw [hvs]
     | cons=>simp [dens] at hd0
    exact ⟨_,.inr ⟨by rw [hwant,this];rfl,rfl⟩,skip hd hk⟩
   ·exact hk.elim
end
end Go.Sx
