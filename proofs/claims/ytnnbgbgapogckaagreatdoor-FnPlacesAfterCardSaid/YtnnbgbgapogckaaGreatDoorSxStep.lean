/-
  One operation of a region, calls among them; the operations of a region one after the other.
-/
import Derived.Test.YtnnbgbgapogckaaGreatDoorSxLoop
namespace Go.Sx
set_option linter.unusedVariables false
set_option linter.unusedSimpArgs false
structure Cal where
 run:List SV→List Entry→(SV→List Entry→Prop)→Prop
 dat:Bool
 io:Option (List Bool) -- which arguments are variables,if nothing else is handed over
def Ziv (P:Program) (f:FuncId) (C:Cal):Prop:=Ze1 P f∧
 ∀ {B:Base} {E:Env} {H:List Entry},Inv B E H→∀ {ss:List SV} {vs:List Value},Zy E ss vs→∀ {K:SV→List Entry→Prop},C.run ss H K→
  Calls P f vs.toArray E.w fun e w'=>∃ v E' H' s,e=.returned v∧E'.w=w'∧Inv B E' H'∧E.le E'∧den E' s v∧K s H'∧(C.dat=true→Grow E.w w')∧(∀ m,C.io=some m→∀ b,b<E.w.heap.size→(∀ v∈pick m vs,ZH v≠some b)→w'.heap[b]?=E.w.heap[b]?)
def Ctr.cal (C:Ctr):Cal:=⟨ZlH C,Vn C.args,match Zac C.args with
 | true=>some (ZbB C.args)
 | false=>none⟩
theorem Ctr.ZmD {P:Program} {f:FuncId} {C:Ctr} (h:Zd P f C):Ziv P f C.cal:=⟨h.1,fun hI _ _ hd _ hk=>(Zki hI h hd hk).mono fun e w' ⟨v,E',H',s,a1,a2,a3,a4,a5,a6,a7,a8⟩=>⟨v,E',H',s,a1,a2,a3,a4,a5,a6,a7,fun m hm=>by
 simp only [Ctr.cal] at hm
 split at hm
 ·rename_i hf
  injection hm with hm
  subst hm
  exact a8 hf
 ·cases hm⟩⟩
abbrev Gam:=List (Nat×Cal)
def Gam.ok (Γ:Gam) (P:Program):Prop:=∀ x∈Γ,Ziv P x.1 x.2
def Zkv:Gam→Nat→(Cal→Prop)→Prop
 | [],_,_=>False
 | (n,C)::r,f,K=>if n=f then K C else Zkv r f K
def Zhw:Gam→Nat→Bool
 | [],_=>false
 | (n,C)::r,f=>if n=f then C.dat else Zhw r f
def Zhx:Gam→Nat→Option (List Bool)
 | [],_=>none
 | (n,C)::r,f=>if n=f then C.io else Zhx r f
theorem ZfZ {P:Program}:∀ (Γ:Gam),Γ.ok P→∀ {f:Nat} {K:Cal→Prop},Zkv Γ f K→∃ C,Ziv P f C∧K C∧C.dat=Zhw Γ f∧C.io=Zhx Γ f
 | [],_,_,_,h=>h.elim
 | (n,C)::r,hΓ,f,K,h=>by
  unfold Zkv at h
  unfold Zhw Zhx
  split at h
  ·rename_i e;subst e;exact ⟨C,hΓ (n,C) (by simp),h,by rw [if_pos rfl],by rw [if_pos rfl]⟩
  ·rename_i e;rw [if_neg e,if_neg e];exact ZfZ r (fun x hx=>hΓ x (by simp [hx])) h
def Zas (Γ:Gam) (op:Op):Bool:=Ql op||Zbz op||match op with
 | .call c=>match c.callee with
  | .value (.func f)=>Zhw Γ f
  | _=>false
 | _=>false
def ZaE (Γ:Gam) (op:Op):Option (List Operand):=match op with
 | .call c=>match c.callee with
  | .value (.func f)=>match Zhx Γ f with
   | some m=>some (pick m c.args.toList)
   | none=>none
  | _=>none
 | _=>none
def ZfG (Δ:Tab) (Γ:Gam) (regs:List SV) (H:List Entry) (op:Op) (K:SV→List Entry→Prop):Prop :=
 match op with
 | .call c=>match c.callee with
  | .value fo=>Xe regs fo fun sf=>match sf with
   | .fn f caps=>Zkv Γ f fun C=>Zh1 regs c.args.toList fun l=>Ze9 l caps fun l'=>C.run l' H K
   | _=>False
  | _=>opK Δ regs H op K
 | op=>opK Δ regs H op K
def Zid (regs:List SV) (dst:Option Tmp) (s:SV) (K:List SV→Prop):Prop :=
 match dst with
 | none=>K regs
 | some d=>Zij regs d s K
def Zju:List Oper→Nat→(Oper→Prop)→Prop
 | [],_,_=>False
 | o::_,0,K=>K o
 | _::r,n+1,K=>Zju r n K
theorem Zcj:∀ (l:List Oper) {n:Nat} {K:Oper→Prop},Zju l n K→∃ o,l[n]?=some o∧K o
 | [],_,_,h=>h.elim
 | o::_,0,K,h=>⟨o,rfl,h⟩
 | _::r,n+1,K,h=>by simpa using Zcj r (n:=n) h
def Ziu (Δ:Tab) (Γ:Gam) (ops:List Oper) (o:Oper) (regs:List SV) (H:List Entry) (K:List SV→List Entry→Prop):Prop :=
 match o.guard with
 | none=>ZfG Δ Γ regs H o.op fun s H'=>Zid regs o.dst s fun regs'=>K regs' H'
 | some (j,want)=>Zju ops j fun oj=>match oj.dst with
  | none=>False
  | some d=>ZcL regs d fun sg=>match sg with
   | .blit b=>if b=want then ZfG Δ Γ regs H o.op fun s H'=>Zid regs o.dst s fun regs'=>K regs' H'
     else Zid regs o.dst (.tup []) fun regs'=>K regs' H
   | .bool p=>(p=want→Zij regs d (.blit want) fun regs1=>ZfG Δ Γ regs1 H o.op fun s H'=>Zid regs1 o.dst s fun regs'=>K regs' H')∧
     (p = !want→Zij regs d (.blit (!want)) fun regs1=>Zid regs1 o.dst (.tup []) fun regs'=>K regs' H)
   | .tup []=>Zid regs o.dst (.tup []) fun regs'=>K regs' H
   | _=>False
def Znn (Δ:Tab) (Γ:Gam) (ops:List Oper):List Oper→List SV→List Entry→(List SV→List Entry→Prop)→Prop
 | [],regs,H,K=>K regs H
 | o::r,regs,H,K=>Ziu Δ Γ ops o regs H fun regs' H'=>Znn Δ Γ ops r regs' H' K
def Conc (B:Base) (regs:List SV) (H:List Entry) (a:Act) (w:World):Prop :=
 ∃ E,E.w=w∧Inv B E H∧Zy E regs a.tmps.toList∧a.defers=[]
section
variable {P:Program}
theorem ZbJ {E:Env} {regs:List SV} {a:Act} (hd:Zy E regs a.tmps.toList) {dst:Option Tmp} {s:SV} {v:Value} (hs:den E s v) {K:List SV→Prop} (hk:Zid regs dst s K) :
  ∃ regs',Zy E regs' (a.put dst v).tmps.toList∧K regs'∧(a.put dst v).defers=a.defers:=by
 cases dst with
 | none=>exact ⟨regs,hd,hk,rfl⟩
 | some d =>
  simp only [Zid,VH] at hk
  refine ⟨_,?_,hk,rfl⟩
  simp only [Act.put,Array.toList_setIfInBounds]
  exact VL _ _ hd d s v hs
theorem Zj3 {B:Base} {E:Env} {o:Oper} {a:Act} {K:SV→List Entry→Prop} (h:Ran P B E o a K) {next:Act→World→Prop} {Q:Exit→Act→World→Prop}
  (hn:∀ E' H' s v,Inv B E' H'→E.le E'→den E' s v→K s H'→((Ql o.op||Zbz o.op)=true→Grow E.w E'.w)→(∀ x,appArg o.op=some x→E.w.grownBy E'.w (ZH (a.eval x)))→next (a.put o.dst v) E'.w):o.wp P a E.w next Q:=by
 obtain ⟨nx,v,E',H',s,h1,h2,h3,h4,h5,h6,_,h7,h8⟩:=h
 unfold Oper.wp
 rw [h1]
 rcases h2 with rfl | ⟨rfl,rfl⟩
 ·exact hn E' H' s v h3 h4 h5 h6 h7 h8
 ·exact hn E' H' s _ h3 h4 h5 h6 h7 h8
theorem ZkY {Δ:Tab} (hΔ:Δ.ok P) {Γ:Gam} (hΓ:Γ.ok P) {B:Base} {E:Env} {H:List Entry} (hI:Inv B E H) {regs:List SV} {a:Act} (hd:Zy E regs a.tmps.toList) {o:Oper} {K:SV→List Entry→Prop}
  (h:ZfG Δ Γ regs H o.op K) {next:Act→World→Prop} {Q:Exit→Act→World→Prop}
  (hn:∀ E' H' s v,Inv B E' H'→E.le E'→den E' s v→K s H'→(Zas Γ o.op=true→Grow E.w E'.w)→(∀ x,appArg o.op=some x→E.w.grownBy E'.w (ZH (a.eval x)))→(∀ xs,ZaE Γ o.op=some xs→∀ b,b<E.w.heap.size→(∀ x∈xs,ZH (a.eval x)≠some b)→E'.w.heap[b]?=E.w.heap[b]?)→next (a.put o.dst v) E'.w):o.wp P a E.w next Q:=by
 obtain ⟨dst,op,type,pos,after,guard⟩:=o
 simp only at h
 unfold ZfG at h
 split at h
 ·rename_i c
  obtain ⟨callee,args,argTypes⟩:=c
  simp only at h
  split at h
  ·rename_i fo
   obtain ⟨sf,hsf,h⟩:=ZE hd h
   split at h
   ·rename_i f caps
    simp only [den] at hsf
    obtain ⟨cv,hfv,hcaps⟩:=hsf
    obtain ⟨C,hC,h,hda,hio⟩:=ZfZ Γ hΓ h
    obtain ⟨l,hl,h⟩:=Zbu hd _ h
    rw [XW] at h
    have hds:=XZ _ _ hl _ _ hcaps
    have hcall:=hC.2 hI hds h
    obtain ⟨⟨fn,hf,hname,hbody⟩,_⟩:=hC
    have hrun:(execOp a.eval ⟨dst,.call ⟨.value fo,args,argTypes⟩,type,pos,after,guard⟩).run P E.w=.ok (.enter f (args.toList.map a.eval++cv).toArray) E.w:=by
     have hargs:(args.map a.eval)++cv.toArray=(args.toList.map a.eval++cv).toArray:=by
      apply Array.ext'
      simp
     simp only [execOp,resolve,hfv,Deferred.ofValue,pure_bind,invoke,Array.empty_append,hargs]
     unfold callFunc
     rw [Sem.run_bind,run_program,Result.andThen_ok,hf]
     simp only [hname,hbody,Bool.false_eq_true,if_false]
     rfl
    unfold Oper.wp
    rw [hrun]
    refine hcall.mono ?_
    rintro e w' ⟨v,E',H',s,rfl,rfl,h1,h2,h3,h4,h5,h6⟩
    refine hn E' H' s v h1 h2 h3 h4 (fun hgr=>h5 ?_) (Zdv rfl) (fun xs hx b hb hne=>?_)
    ·rw [hda]
     cases fo with
     | func f0 =>
      simp only [Act.eval] at hfv
      injection hfv with hfv
      injection hfv with hfv
      subst hfv
      simpa [Zas,Ql,Zbz] using hgr
     | _=>simp [Zas,Ql,Zbz] at hgr
    ·cases fo with
     | func f0 =>
      simp only [Act.eval] at hfv
      have hcv:cv=[]:=by
       have h:=hfv
       simp at h
       first | exact h.2.symm | exact h.2 | (rcases h with ⟨h1,h2⟩;simpa using h2.symm) | simpa using h.2
      injection hfv with hfv
      injection hfv with hfv
      subst hfv
      simp only [ZaE] at hx
      split at hx
      ·rename_i m hm
       injection hx with hx
       subst hx
       refine h6 m (hio.trans hm) b hb (fun u hu=>?_)
       have:pick m (args.toList.map a.eval++cv)=(pick m args.toList).map a.eval:=by
        rw [←Zfy,hcv,List.append_nil]
       rw [this] at hu
       obtain ⟨x,hx1,rfl⟩:=List.mem_map.1 hu
       exact hne x hx1
      ·cases hx
     | _=>simp [ZaE] at hx
   ·exact h.elim
  ·rename_i hne
   refine Zj3 (Zjw hΔ hI hd h) (fun E' H' s v h1 h2 h3 h4 h5 h6=>hn E' H' s v h1 h2 h3 h4 (fun hgr=>h5 ?_) h6 (fun xs hx=>?_))
   ·cases callee with
    | value f=>exact absurd rfl (hne f)
    | _=>simpa [Zas,Zbz] using hgr
   ·cases callee with
    | value f=>exact absurd rfl (hne f)
    | _=>simp [ZaE] at hx
 ·rename_i hne
  refine Zj3 (Zjw hΔ hI hd h) (fun E' H' s v h1 h2 h3 h4 h5 h6=>hn E' H' s v h1 h2 h3 h4 (fun hgr=>h5 ?_) h6 (fun xs hx=>?_))
  rotate_left
  ·cases op with
   | call c=>exact absurd rfl (hne c)
   | _=>simp [ZaE] at hx
  cases op with
  | call c=>exact absurd rfl (hne c)
  | _=>first | rfl | exact hgr | (simp [Zas,Ql,Zbz] at hgr ⊢)
def ZiG:Value→Option Bool
 | .bool b=>some b
 | _=>none
theorem Ze0 {ops:Array Oper} {a:Act} {j d:Nat} {oj:Oper} {v:Value} (ho:ops.toList[j]?=some oj) (hd:oj.dst=some d) (hv:a.tmps.toList[d]?=some v) :
  yielded ops a.tmps j=ZiG v:=by
 have ho':ops[j]?=some oj:=by simpa using ho
 have hv':a.tmps[d]?=some v:=by simpa using hv
 unfold yielded
 rw [ho',Option.bind_some,hd,Option.bind_some,hv']
 cases v<;>rfl
theorem ZhJ {Δ:Tab} (hΔ:Δ.ok P) {Γ:Gam} (hΓ:Γ.ok P) {B:Base} (ops:Array Oper) {Q:Exit→Act→World→Prop} (o:Oper) {regs:List SV} {H:List Entry} {a:Act} {E:Env} (hI:Inv B E H) (hd:Zy E regs a.tmps.toList) (hdef:a.defers=[])
  {K:List SV→List Entry→Prop} (hk:Ziu Δ Γ ops.toList o regs H K) {next:Act→World→Prop}
  (hq:∀ regs' H' a' E',K regs' H'→Inv B E' H'→Zy E' regs' a'.tmps.toList→a'.defers=[]→E.le E'→(Zas Γ o.op=true→Grow E.w E'.w)→(∀ x,appArg o.op=some x→E.w.grownBy E'.w (ZH (a.eval x)))→(∀ xs,ZaE Γ o.op=some xs→∀ b,b<E.w.heap.size→(∀ x∈xs,ZH (a.eval x)≠some b)→E'.w.heap[b]?=E.w.heap[b]?)→next a' E'.w) :
  (if Region.wanted o (yielded ops a.tmps) then o.wp P a E.w next Q∨(o.asks P a E.w∧LetsOut Q) else next (a.put o.dst undef) E.w):=by
 have run:∀ {regs:List SV},Zy E regs a.tmps.toList→(ZfG Δ Γ regs H o.op fun s H'=>Zid regs o.dst s fun regs'=>K regs' H')→o.wp P a E.w next Q:=by
  intro regs hd hk
  refine ZkY hΔ hΓ hI hd hk (fun E' H' s v hI' hle hs hk hg hap hwr=>?_)
  obtain ⟨regs',hd',hk,hdf⟩:=ZbJ (Zl hle _ _ hd) hs hk
  exact hq regs' H' _ _ hk hI' hd' (by rw [hdf];exact hdef) hle hg hap hwr
 have skip:∀ {regs:List SV},Zy E regs a.tmps.toList→(Zid regs o.dst (.tup []) fun regs'=>K regs' H)→next (a.put o.dst undef) E.w:=by
  intro regs hd hk
  obtain ⟨regs',hd',hk,hdf⟩:=ZbJ hd (v:=undef) (by simp only [den];exact ⟨[],rfl,trivial⟩) hk
  exact hq regs' H _ _ hk hI hd' (by rw [hdf];exact hdef) (Env.le.refl E) (fun _=>Grow.refl _) (fun _ _=>⟨rfl,rfl,rfl,Nat.le_refl _,fun _ _ _=>rfl⟩) (fun _ _ _ _ _=>rfl)
 unfold Ziu at hk
 split at hk
 ·rename_i hg
  rw [if_pos (by simp [Region.wanted,hg])]
  exact .inl (run hd hk)
 ·rename_i j want hg
  obtain ⟨oj,hoj,hk1⟩:=Zcj _ hk
  clear hk
  split at hk1
  ·exact hk1.elim
  ·rename_i d hdst
   obtain ⟨sg,v,hv,hsg,hk,hrg⟩:=Qr _ _ hd hk1
   clear hrg hk1
   have hy:=Ze0 hoj hdst hv
   have hwant:Region.wanted o (yielded ops a.tmps)=(ZiG v == some want):=by
    simp only [Region.wanted,hg,hy]
   have hset:∀ (s:SV),den E s v→Zy E (regs.set d s) a.tmps.toList:=by
    intro s hs
    have h1:=VL _ _ hd d s v hs
    have hvs:a.tmps.toList.set d v=a.tmps.toList:=by
     apply List.ext_getElem?
     intro k
     by_cases hkd:d=k
     ·subst hkd
      have:=(List.getElem?_eq_some_iff.1 hv).1
      rw [List.getElem?_set_self this,hv]
     ·rw [List.getElem?_set_ne hkd]
    rwa [hvs] at h1
   split at hk
   ·rename_i b
    simp only [den] at hsg;subst hsg
    split at hk
    ·rename_i hb;subst hb
     rw [if_pos (by rw [hwant];simp [ZiG])]
     exact .inl (run hd hk)
    ·rename_i hb
     rw [if_neg (by rw [hwant];simp [ZiG];exact hb)]
     exact skip hd hk
   ·rename_i p
    simp only [den] at hsg;subst hsg
    by_cases hp:p=want
    ·subst hp
     rw [if_pos (by rw [hwant];simp [ZiG])]
     have hk:=hk.1 rfl
     rw [VH] at hk
     exact .inl (run (hset _ (by simp only [den])) hk)
    ·have hp':p = !want:=by cases p<;>cases want<;>simp_all
     rw [if_neg (by rw [hwant];simp [ZiG];exact hp)]
     have hk:=hk.2 hp'
     rw [VH] at hk
     exact skip (hset _ (by simp only [den,hp'])) hk
   ·simp only [den] at hsg
    obtain ⟨vs,hvs,hd0⟩:=hsg
    have:v=.tuple #[]:=by
     cases vs with
     | nil=>rw [hvs]
     | cons=>simp [Zy] at hd0
    rw [if_neg (by rw [hwant,this];intro h;cases h)]
    exact skip hd hk
   ·exact hk.elim
theorem Zl0 {Δ:Tab} (hΔ:Δ.ok P) {Γ:Gam} (hΓ:Γ.ok P) {B:Base} (ops:Array Oper) {Q:Exit→Act→World→Prop} (o:Oper) {regs:List SV} {H:List Entry} {a:Act} {w:World} (hc:Conc B regs H a w)
  {K:List SV→List Entry→Prop} (hk:Ziu Δ Γ ops.toList o regs H K) {next:Act→World→Prop}
  (hq:∀ regs' H' a' w',K regs' H'→Conc B regs' H' a' w'→(Zas Γ o.op=true→Grow w w')→next a' w') :
  (if Region.wanted o (yielded ops a.tmps) then o.wp P a w next Q∨(o.asks P a w∧LetsOut Q) else next (a.put o.dst undef) w):=by
 obtain ⟨E,hw,hI,hd,hdef⟩:=hc
 subst hw
 exact ZhJ hΔ hΓ ops o hI hd hdef hk (fun regs' H' a' E' hk hI' hd' hdef' _ hg _ _=>hq regs' H' a' _ hk ⟨E',rfl,hI',hd',hdef'⟩ hg)
theorem Zjx {Δ:Tab} (hΔ:Δ.ok P) {Γ:Gam} (hΓ:Γ.ok P) {B:Base} (ops:Array Oper) {Q:Exit→Act→World→Prop}:∀ (l:List Oper) {regs:List SV} {H:List Entry} {a:Act} {w:World} (_:Conc B regs H a w)
  {K:List SV→List Entry→Prop} (_:Znn Δ Γ ops.toList l regs H K) (_:∀ regs' H' a' w',K regs' H'→Conc B regs' H' a' w'→Q .normal a' w'),wpList P ops Q l a w
 | [],regs,H,a,w,hc,K,hk,hq=>hq _ _ _ _ hk hc
 | o::r,regs,H,a,w,hc,K,hk,hq=>by
  simp only [Znn] at hk
  unfold wpList
  exact Zl0 hΔ hΓ ops o hc hk (fun regs' H' a' w' hk' hc' _=>Zjx hΔ hΓ ops r hc' hk' hq)
def Zbi (B:Base) (E0:Env) (regs:List SV) (H:List Entry) (a:Act) (w:World):Prop :=
 ∃ E,E0.le E∧E.w=w∧Inv B E H∧Zy E regs a.tmps.toList∧a.defers=[]
theorem Zbi.ZnO {B:Base} {E0:Env} {regs:List SV} {H:List Entry} {a:Act} {w:World} (h:Zbi B E0 regs H a w):Conc B regs H a w:=by
 obtain ⟨E,_,h⟩:=h
 exact ⟨E,h⟩
theorem Zf8 {Δ:Tab} (hΔ:Δ.ok P) {Γ:Gam} {B:Base} (ops:Array Oper) (o:Oper) (hl:Ql o.op=true) {regs:List SV} {H:List Entry} {a:Act} {E:Env} (hI:Inv B E H) (hd:Zy E regs a.tmps.toList) (hdef:a.defers=[])
  {K:List SV→List Entry→Prop} (hk:Ziu Δ Γ ops.toList o regs H K) :
  ∃ v,((Region.wanted o (yielded ops a.tmps)=true∧∀ w',(isLoad o.op=true→Ze3 E.w w')→(execOp a.eval o).run P w'=.ok (.value v) w')∨(Region.wanted o (yielded ops a.tmps)=false∧v=undef))∧
   ∃ regs' H',K regs' H'∧Zbi B E regs' H' (a.put o.dst v) E.w:=by
 have hst:∀ (K:SV→List Entry→Prop) (regs:List SV),ZfG Δ Γ regs H o.op K→opK Δ regs H o.op K:=by
  intro K regs h
  unfold ZfG at h
  split at h
  ·rename_i c heq
   split at h
   ·rename_i f hcal
    rw [heq] at hl
    simp [Ql,hcal] at hl
   ·exact h
  ·exact h
 have run:∀ {regs:List SV},Zy E regs a.tmps.toList→(ZfG Δ Γ regs H o.op fun s H'=>Zid regs o.dst s fun regs'=>K regs' H')→
   ∃ v,(∀ w',(isLoad o.op=true→Ze3 E.w w')→(execOp a.eval o).run P w'=.ok (.value v) w')∧∃ regs' H',K regs' H'∧Zbi B E regs' H' (a.put o.dst v) E.w:=by
  intro regs hd hk
  obtain ⟨nx,v,E',H',s,h1,h2,h3,h4,h5,h6,h7,_⟩:=Zjw hΔ hI hd (hst _ _ hk)
  obtain ⟨_,hw8,h8⟩:=h7 hl
  obtain ⟨regs',hd',hk,hdf⟩:=ZbJ (Zl h4 _ _ hd) h5 h6
  exact ⟨v,h8,regs',H',hk,E',h4,hw8,h3,hd',by rw [hdf];exact hdef⟩
 have skip:∀ {regs:List SV},Zy E regs a.tmps.toList→(Zid regs o.dst (.tup []) fun regs'=>K regs' H)→∃ regs' H',K regs' H'∧Zbi B E regs' H' (a.put o.dst undef) E.w:=by
  intro regs hd hk
  obtain ⟨regs',hd',hk,hdf⟩:=ZbJ hd (v:=undef) (by simp only [den];exact ⟨[],rfl,trivial⟩) hk
  exact ⟨regs',H,hk,E,Env.le.refl E,rfl,hI,hd',by rw [hdf];exact hdef⟩
 unfold Ziu at hk
 split at hk
 ·rename_i hg
  obtain ⟨v,h1,h2⟩:=run hd hk
  exact ⟨v,.inl ⟨by simp [Region.wanted,hg],h1⟩,h2⟩
 ·rename_i j want hg
  obtain ⟨oj,hoj,hk1⟩:=Zcj _ hk
  clear hk
  split at hk1
  ·exact hk1.elim
  ·rename_i d hdst
   obtain ⟨sg,v,hv,hsg,hk,hrg⟩:=Qr _ _ hd hk1
   clear hrg hk1
   have hy:=Ze0 hoj hdst hv
   have hwant:Region.wanted o (yielded ops a.tmps)=(ZiG v == some want):=by
    simp only [Region.wanted,hg,hy]
   have hset:∀ (s:SV),den E s v→Zy E (regs.set d s) a.tmps.toList:=by
    intro s hs
    have h1:=VL _ _ hd d s v hs
    have hvs:a.tmps.toList.set d v=a.tmps.toList:=by
     apply List.ext_getElem?
     intro k
     by_cases hkd:d=k
     ·subst hkd
      have:=(List.getElem?_eq_some_iff.1 hv).1
      rw [List.getElem?_set_self this,hv]
     ·rw [List.getElem?_set_ne hkd]
    rwa [hvs] at h1
   split at hk
   ·rename_i b
    simp only [den] at hsg;subst hsg
    split at hk
    ·rename_i hb;subst hb
     obtain ⟨v,h1,h2⟩:=run hd hk
     exact ⟨v,.inl ⟨by rw [hwant];simp [ZiG],h1⟩,h2⟩
    ·rename_i hb
     exact ⟨_,.inr ⟨by rw [hwant];simp [ZiG];exact hb,rfl⟩,skip hd hk⟩
   ·rename_i p
    simp only [den] at hsg;subst hsg
    by_cases hp:p=want
    ·subst hp
     have hk:=hk.1 rfl
     rw [VH] at hk
     obtain ⟨v,h1,h2⟩:=run (hset _ (by simp only [den])) hk
     exact ⟨v,.inl ⟨by rw [hwant];simp [ZiG],h1⟩,h2⟩
    ·have hp':p = !want:=by cases p<;>cases want<;>simp_all
     have hk:=hk.2 hp'
     rw [VH] at hk
     exact ⟨_,.inr ⟨by rw [hwant];simp [ZiG];exact hp,rfl⟩,skip (hset _ (by simp only [den,hp'])) hk⟩
   ·simp only [den] at hsg
    obtain ⟨vs,hvs,hd0⟩:=hsg
    have:v=.tuple #[]:=by
     cases vs with
     | nil=>rw [hvs]
     | cons=>simp [Zy] at hd0
    exact ⟨_,.inr ⟨by rw [hwant,this];rfl,rfl⟩,skip hd hk⟩
   ·exact hk.elim
theorem Znk {Δ:Tab} (hΔ:Δ.ok P) {Γ:Gam} {B:Base} (ops:Array Oper) (o:Oper) (hl:Ql o.op=true) {regs:List SV} {H:List Entry} {a:Act} {w:World} (hc:Conc B regs H a w)
  {K:List SV→List Entry→Prop} (hk:Ziu Δ Γ ops.toList o regs H K) :
  ∃ v,((Region.wanted o (yielded ops a.tmps)=true∧∀ w',(isLoad o.op=true→Ze3 w w')→(execOp a.eval o).run P w'=.ok (.value v) w')∨(Region.wanted o (yielded ops a.tmps)=false∧v=undef))∧
   ∃ regs' H',K regs' H'∧Conc B regs' H' (a.put o.dst v) w:=by
 obtain ⟨E,hw,hI,hd,hdef⟩:=hc
 subst hw
 obtain ⟨v,h1,regs',H',h2,h3⟩:=Zf8 hΔ ops o hl hI hd hdef hk
 exact ⟨v,h1,regs',H',h2,h3.ZnO⟩
end
end Go.Sx
