/-
  A region that draws its order: a plan of it; the operations that only look are taken as soon as they can be; for the others every order is walked.
-/
import Derived.Test.YtpkjjgdhmafonaaGreatDoorSxStep
import Derived.Orders
namespace Go.Sx
set_option linter.unusedVariables false
set_option linter.unusedSimpArgs false
inductive DPlan
 | done
 | op (i:Nat) (p:DPlan)
 | alt (i:Nat) (p q:DPlan)
section
variable {P:Program} {ops:Array Oper}
inductive Behind (ops:Array Oper) (i:Nat):Nat→Prop
 | edge {j:Nat} {oj:Oper} {e:Edge}:ops[j]?=some oj→e∈oj.after→Region.binds .any e=true→e.on=i→Behind ops i j
 | step {j:Nat} {oj:Oper} {e:Edge}:ops[j]?=some oj→e∈oj.after→Region.binds .any e=true→Behind ops i e.on→Behind ops i j
def maskOf (acc:List Nat) (l:List Edge) (m:Nat):Nat :=
 match l with
 | []=>m
 | e::r=>maskOf acc r (if Region.binds .any e then (m ||| 2 ^ e.on) ||| acc.getD e.on 0 else m)
def masksGo:List Oper→List Nat→List Nat
 | [],acc=>acc
 | o::r,acc=>masksGo r (acc++[maskOf acc o.after.toList 0])
def blockedB (M:List Nat) (i j:Nat):Bool:=(M.getD j 0).testBit i
theorem maskOf_ok {ops:Array Oper} {acc:List Nat} (hacc:∀ (j m:Nat),acc[j]?=some m→∀ i,m.testBit i=true→Behind ops i j) {j:Nat} {oj:Oper} (hj:ops[j]?=some oj) :
  ∀ (l:List Edge) (m:Nat),(∀ e∈l,e∈oj.after)→(∀ i,m.testBit i=true→Behind ops i j)→∀ i,(maskOf acc l m).testBit i=true→Behind ops i j
 | [],m,_,hm,i,h=>hm i h
 | e::r,m,hl,hm,i,h=>by
  unfold maskOf at h
  refine maskOf_ok hacc hj r _ (fun e he=>hl e (by simp [he])) ?_ i h
  intro k hk
  split at hk
  ·rename_i hb
   rw [Nat.testBit_or,Nat.testBit_or,Nat.testBit_two_pow] at hk
   simp only [Bool.or_eq_true,decide_eq_true_eq] at hk
   rcases hk with (hk | hk) | hk
   ·exact hm k hk
   ·exact .edge hj (hl e (by simp)) hb hk
   ·cases ha:acc[e.on]? with
    | none=>simp [ha] at hk
    | some m'=>exact .step hj (hl e (by simp)) hb (hacc _ _ ha k (by simpa [ha] using hk))
  ·exact hm k hk
theorem masksGo_ok {ops:Array Oper}:∀ (l:List Oper) (acc:List Nat),(∀ (k:Nat),l[k]?=ops[acc.length+k]?)→(∀ (j m:Nat),acc[j]?=some m→∀ i,m.testBit i=true→Behind ops i j)→
  ∀ (j m:Nat),(masksGo l acc)[j]?=some m→∀ i,m.testBit i=true→Behind ops i j
 | [],acc,_,h=>h
 | o::r,acc,hl,h=>by
  unfold masksGo
  refine masksGo_ok r _ (fun k=>?_) ?_
  ·have:=hl (k+1)
   simpa [Nat.add_assoc,Nat.add_comm 1 k] using this
  ·intro j m hj i hi
   have hlt:=(List.getElem?_eq_some_iff.1 hj).1
   rw [List.length_append,List.length_singleton] at hlt
   by_cases hja:j<acc.length
   ·rw [List.getElem?_append_left hja] at hj
    exact h j m hj i hi
   ·have:j=acc.length:=by omega
    subst this
    rw [List.getElem?_append_right (by omega)] at hj
    simp at hj
    subst hj
    have h0:ops[acc.length]?=some o:=by simpa using (hl 0).symm
    exact maskOf_ok h h0 _ 0 (fun e he=>by simpa using he) (fun i hi=>by simp at hi) i hi
def Down (ops:Array Oper) (listed:Array Bool):Prop:=∀ (j:Nat) (oj:Oper) (e:Edge),ops[j]?=some oj→listed.getD j false=true→e∈oj.after→Region.binds .any e=true→listed.getD e.on false=true
theorem Down.set {listed:Array Bool} (h:Down ops listed) {i:Nat} (hr:i∈Region.ready .any ops listed):Down ops (listed.setIfInBounds i true):=by
 intro j oj e hj hl he hb
 by_cases hij:i=j
 ·subst hij
  obtain ⟨_,o,ho,hall⟩:=mem_ready.1 hr
  rw [hj] at ho;injection ho with ho;subst ho
  exact getD_set_true (hall e he hb)
 ·rw [getD_set_ne false hij] at hl
  exact getD_set_true (h j oj e hj hl he hb)
theorem blocked_spec {listed:Array Bool} (hd:Down ops listed) {i:Nat} (hi:listed.getD i false=false):∀ (j:Nat),Behind ops i j→j ∉ Region.ready .any ops listed∧listed.getD j false=false:=by
 intro j h
 have fin:∀ {j:Nat} {oj:Oper} {e:Edge},ops[j]?=some oj→e∈oj.after→Region.binds .any e=true→listed.getD e.on false=false→j ∉ Region.ready .any ops listed∧listed.getD j false=false:=by
  intro j oj e hj he hb hun
  constructor
  ·intro hr
   obtain ⟨_,o,ho,hall⟩:=mem_ready.1 hr
   rw [hj] at ho;injection ho with ho;subst ho
   have:=hall e he hb
   rw [hun] at this;cases this
  ·cases hl:listed.getD j false with
   | false=>rfl
   | true =>
    have:=hd j oj e hj hl he hb
    rw [hun] at this;cases this
 induction h with
 | edge hj he hb hon=>exact fin hj he hb (by rw [hon];exact hi)
 | step hj he hb _ ih=>exact fin hj he hb ih.2
def Lit (P:Program) (ops:Array Oper) (R:World→World→Prop) (o:Oper) (v:Value) (a:Act) (w:World):Prop :=
 (Region.wanted o (yielded ops a.tmps)=true∧∀ w',R w w'→(execOp a.eval o).run P w'=.ok (.value v) w')∨(Region.wanted o (yielded ops a.tmps)=false∧v=undef)
structure Way (R:World→World→Prop):Prop where
 refl:∀ w,R w w
 trans:∀ a b c,R a b→R b c→R a c
def wpAnyG (P:Program) (ops:Array Oper) (gr:Nat→Bool) (Q:Exit→Act→World→Prop):Nat→Array Bool→Act→World→Prop
 | 0,listed,a,w=>Region.ready .any ops listed=[]∧Q .normal a w
 | fuel+1,listed,a,w=>(Region.ready .any ops listed=[]→Q .normal a w)∧
  ∀ i∈Region.ready .any ops listed,wpOp P ops Q i (fun a' w'=>(gr i=true→Stab w w')∧wpAnyG P ops gr Q fuel (listed.setIfInBounds i true) a' w') a w
theorem wpAny_of_G {gr:Nat→Bool} {Q:Exit→Act→World→Prop}:∀ (fuel:Nat) (listed:Array Bool) (a:Act) (w:World),wpAnyG P ops gr Q fuel listed a w→wpAny P .any ops Q fuel listed a w
 | 0,_,_,_,h=>h
 | fuel+1,_,_,_,h=>⟨h.1,fun i hi=>wpOp_mono (fun a' w' hh=>wpAny_of_G fuel _ a' w' hh.2) (h.2 i hi)⟩
theorem Lit.wpOp {R:World→World→Prop} (hR:Way R) {Q:Exit→Act→World→Prop} {i:Nat} {o:Oper} {v:Value} {a:Act} {w:World} (hi:ops[i]?=some o) (hy:Lit P ops R o v a w)
  {K:Act→World→Prop} (h:K (a.put o.dst v) w):Go.wpOp P ops Q i K a w:=by
 unfold Go.wpOp
 simp only [hi]
 rcases hy with ⟨hw,hv⟩ | ⟨hw,rfl⟩
 ·simp only [hw,if_true,Oper.wp,hv w (hR.refl w),Oper.upon];exact .inl h
 ·simp only [hw,Bool.false_eq_true,if_false];exact h
theorem wpOp_putG {R:World→World→Prop} (hR:Way R) {Q:Exit→Act→World→Prop} {j:Nat} {oi oj:Oper} {v:Value} (hj:ops[j]?=some oj) (hap:oi.apart ops oj=true)
  (hsi:∀ cs b,oi.op≠.select cs b) (hsj:∀ cs b,oj.op≠.select cs b) (hQ:∀ c a w,¬Q (.panic c) a w) {gr:Bool} (hgr:∀ w w',(gr=true→Stab w w')→R w w')
  {K:Act→World→Prop} {a:Act} {w:World} (hy:Lit P ops R oi v a w) (h:wpOp P ops Q j (fun a' w'=>(gr=true→Stab w w')∧K a' w') (a.put oi.dst v) w) :
  wpOp P ops Q j (fun a' w'=>(gr=true→Stab w w')∧Lit P ops R oi v a' w'∧K (a'.put oi.dst v) w') a w:=by
 obtain ⟨h1,h2,h3⟩:=Oper.apart_spec hap
 have keep:∀ (a':Act) (w':World),execOp a'.eval oi=execOp a.eval oi→Region.wanted oi (yielded ops a'.tmps)=Region.wanted oi (yielded ops a.tmps)→R w w'→Lit P ops R oi v a' w':=by
  intro a' w' he hw hr
  unfold Lit at *
  rw [he,hw]
  rcases hy with ⟨a1,a2⟩ | a1
  ·exact .inl ⟨a1,fun w'' h''=>a2 w'' (hR.trans _ _ _ hr h'')⟩
  ·exact .inr a1
 have keepP:∀ (u:Value) (w':World),R w w'→Lit P ops R oi v (a.put oj.dst u) w':=fun u w' hr=>keep _ _ (execOp_put oi hsi a oj.dst u h3) (wanted_put oi a oj.dst u h3) hr
 have keepD:∀ (d:Deferred) (u:Value) (w':World),R w w'→Lit P ops R oi v (({a with defers:=d::a.defers}:Act).put oj.dst u) w':=fun d u w' hr =>
  keep _ _ ((execOp_put oi hsi ({a with defers:=d::a.defers}:Act) oj.dst u h3).trans rfl) ((wanted_put oi ({a with defers:=d::a.defers}:Act) oj.dst u h3).trans rfl) hr
 unfold wpOp at *
 simp only [hj] at *
 rw [wanted_put oj a oi.dst v h1] at h
 split
 ·rename_i hw
  simp only [hw,if_true] at h
  rcases h with h | ⟨hasks,hlets⟩
  case inr=>exact .inr ⟨by unfold Oper.asks at *;rw [execOp_put oj hsj a oi.dst v h1] at hasks;exact hasks,hlets⟩
  refine .inl ?_
  unfold Oper.wp at *
  rw [execOp_put oj hsj a oi.dst v h1] at h
  generalize (execOp a.eval oj).run P w=r at *
  cases r with
  | ok n w' =>
   cases n<;>simp only [Oper.upon] at h ⊢
   case value u=>exact ⟨h.1,keepP u w' (hgr _ _ h.1),by rw [←Act.put_comm a v u h2];exact h.2⟩
   case skip=>exact ⟨h.1,keepP _ w' (hgr _ _ h.1),by rw [←Act.put_comm a v undef h2];exact h.2⟩
   case defer d =>
    refine ⟨h.1,keepD d _ w' (hgr _ _ h.1),?_⟩
    rw [←Act.put_comm _ v undef h2,←Act.put_defers]
    exact h.2
   case enter f args =>
    refine Calls.mono h fun e w'' he=>?_
    cases e with
    | returned u=>exact ⟨he.1,keepP u w'' (hgr _ _ he.1),by rw [←Act.put_comm a v u h2];exact he.2⟩
    | panicked c=>exact absurd he (hQ _ _ _)
    | outgrown=>exact he
   case row row args=>exact Rows.mono h fun u w'' he=>⟨he.1,keepP u w'' (hgr _ _ he.1),by rw [←Act.put_comm a v u h2];exact he.2⟩
  | halt x w' =>
   cases x<;>simp only [Oper.upon] at h ⊢
   case panic u=>exact absurd h (hQ _ _ _)
 ·rename_i hw
  simp only [hw] at h
  exact ⟨h.1,keepP _ w (hR.refl w),by rw [←Act.put_comm a v undef h2];exact h.2⟩
theorem wpAnyG_first {R:World→World→Prop} (hR:Way R) {Q:Exit→Act→World→Prop} {gr:Nat→Bool} {i:Nat} {oi:Oper} {v:Value} (hi:ops[i]?=some oi)
  (hsel:∀ (j:Nat) (o:Oper) cs b,ops[j]?=some o→o.op≠.select cs b) (hQ:∀ c a w,¬Q (.panic c) a w)
  (hfree:∀ j oj,ops[j]?=some oj→j≠i→¬Behind ops i j→¬Behind ops j i→oi.apart ops oj=true∧∀ w w',(gr j=true→Stab w w')→R w w') :
  ∀ (fuel:Nat) (listed:Array Bool) (a:Act) (w:World),Down ops listed→i∈Region.ready .any ops listed→Lit P ops R oi v a w→
   wpAnyG P ops gr Q fuel (listed.setIfInBounds i true) (a.put oi.dst v) w→wpAnyG P ops gr Q (fuel+1) listed a w:=by
 have hun:∀ listed:Array Bool,i∈Region.ready .any ops listed→listed.getD i false=false:=by
  intro listed hr
  have h0:=(mem_ready.1 hr).1
  rcases Nat.lt_or_ge i listed.size with h' | h'
  ·simpa [h'] using h0
  ·simp [Array.getElem?_eq_none h']
 intro fuel
 induction fuel with
 | zero =>
  intro listed a w hd hr hy H
  refine ⟨fun h=>(by rw [h] at hr;cases hr),fun j hj=>?_⟩
  by_cases hji:j=i
  ·subst hji;exact hy.wpOp hR hi ⟨fun _=>Stab.refl w,H⟩
  ·have:=ready_mono hj hji
   rw [H.1] at this
   cases this
 | succ fuel ih =>
  intro listed a w hd hr hy H
  refine ⟨fun h=>(by rw [h] at hr;cases hr),fun j hj=>?_⟩
  by_cases hji:j=i
  ·subst hji;exact hy.wpOp hR hi ⟨fun _=>Stab.refl w,H⟩
  ·have h1:=H.2 j (ready_mono hj hji)
   obtain ⟨hjun,oj,hoj,hall⟩:=mem_ready.1 hj
   have hnb:¬Behind ops i j:=fun hb=>(blocked_spec hd (hun _ hr) j hb).1 hj
   have hnb2:¬Behind ops j i:=by
    intro hb
    refine (blocked_spec hd ?_ i hb).1 hr
    rcases Nat.lt_or_ge j listed.size with h' | h'
    ·simpa [h'] using hjun
    ·simp [Array.getElem?_eq_none h']
   obtain ⟨hap,hgr⟩:=hfree j oj hoj hji hnb hnb2
   have h2:=wpOp_putG hR hoj hap (fun cs b=>hsel i oi cs b hi) (fun cs b=>hsel j oj cs b hoj) hQ hgr hy h1
   refine wpOp_mono (fun a' w' h3=>⟨h3.1,ih (listed.setIfInBounds j true) a' w' (hd.set hj) (ready_mono hr (Ne.symm hji)) h3.2.1 ?_⟩) h2
   rw [Array.setIfInBounds_comm _ _ hji]
   exact h3.2.2
def noSelectB (ops:Array Oper):Bool:=ops.all fun o=>match o.op with
 | .select _ _=>false
 | _=>true
def freeB (Γ:Gam) (ops:Array Oper) (M:List Nat) (i:Nat):Bool :=
 match ops[i]? with
 | none=>false
 | some oi=>lightOp oi.op&&(List.range ops.size).all fun j=>j == i||blockedB M i j||blockedB M j i||match ops[j]? with
  | none=>true
  | some oj=>oi.apart ops oj&&(!isLoad oi.op||growsK Γ oj.op)
def planOk (Γ:Gam) (ops:Array Oper) (M:List Nat):DPlan→Nat→Array Bool→Option (List Nat)→Bool
 | .done,_,listed,none=>(Region.ready .any ops listed).isEmpty
 | .done,_,_,some rem=>rem.isEmpty
 | .op i p,n+1,listed,none=>(Region.ready .any ops listed).contains i&&freeB Γ ops M i&&planOk Γ ops M p n (listed.setIfInBounds i true) none
 | .alt i p q,n+1,listed,none=>(Region.ready .any ops listed).contains i&&planOk Γ ops M p n (listed.setIfInBounds i true) none&&planOk Γ ops M q (n+1) listed (some ((Region.ready .any ops listed).filter (· != i)))
 | .alt i p q,n+1,listed,some rem=>planOk Γ ops M p n (listed.setIfInBounds i true) none&&planOk Γ ops M q (n+1) listed (some (rem.filter (· != i)))
 | _,_,_,_=>false
def drawK (Δ:Tab) (Γ:Gam) (ops:List Oper):DPlan→Bool→List SV→List Entry→(List SV→List Entry→Prop)→Prop
 | .done,false,regs,H,K=>K regs H
 | .done,true,_,_,_=>True
 | .op i p,_,regs,H,K=>nthO ops i fun o=>oneK Δ Γ ops o regs H fun regs' H'=>drawK Δ Γ ops p false regs' H' K
 | .alt i p .done,_,regs,H,K=>nthO ops i fun o=>oneK Δ Γ ops o regs H fun regs' H'=>drawK Δ Γ ops p false regs' H' K
 | .alt i p q,_,regs,H,K=>(nthO ops i fun o=>oneK Δ Γ ops o regs H fun regs' H'=>drawK Δ Γ ops p false regs' H' K)∧drawK Δ Γ ops q true regs H K
def grOf (Γ:Gam) (ops:Array Oper) (j:Nat):Bool:=match ops[j]? with
 | some o=>growsK Γ o.op
 | none=>true
theorem drawK_ok {M:List Nat} (hM:∀ i j,blockedB M i j=true→Behind ops i j) {Δ:Tab} (hΔ:Δ.ok P) {Γ:Gam} (hΓ:Γ.ok P) {B:Base} {Q:Exit→Act→World→Prop} (hQ:∀ c a w,¬Q (.panic c) a w) (hs:noSelectB ops=true) {K:List SV→List Entry→Prop}
  (hq:∀ regs' H' a' w',K regs' H'→Conc B regs' H' a' w'→Q .normal a' w') :
  ∀ (p:DPlan) (n:Nat) (listed:Array Bool) (m:Option (List Nat)) (regs:List SV) (H:List Entry) (a:Act) (w:World),Conc B regs H a w→Down ops listed→planOk Γ ops M p n listed m=true→drawK Δ Γ ops.toList p m.isSome regs H K→
   match m with
   | none=>wpAnyG P ops (grOf Γ ops) Q n listed a w
   | some rem=>∀ i∈rem,i∈Region.ready .any ops listed→wpOp P ops Q i (fun a' w'=>(grOf Γ ops i=true→Stab w w')∧wpAnyG P ops (grOf Γ ops) Q (n-1) (listed.setIfInBounds i true) a' w') a w:=by
 have hsel:∀ (j:Nat) (o:Oper) cs b,ops[j]?=some o→o.op≠.select cs b:=by
  intro j o cs b hj he
  unfold noSelectB at hs
  rw [Array.all_eq_true_iff_forall_mem] at hs
  have:=hs o (Array.mem_of_getElem? hj)
  rw [he] at this;cases this
 have heavy:∀ (i n:Nat) (listed:Array Bool) (p:DPlan) (regs:List SV) (H:List Entry) (a:Act) (w:World),Conc B regs H a w→Down ops listed→i∈Region.ready .any ops listed→planOk Γ ops M p n (listed.setIfInBounds i true) none=true→
   (∀ regs H a w,Conc B regs H a w→drawK Δ Γ ops.toList p false regs H K→wpAnyG P ops (grOf Γ ops) Q n (listed.setIfInBounds i true) a w)→
   (nthO ops.toList i fun o=>oneK Δ Γ ops.toList o regs H fun regs' H'=>drawK Δ Γ ops.toList p false regs' H' K)→
   wpOp P ops Q i (fun a' w'=>(grOf Γ ops i=true→Stab w w')∧wpAnyG P ops (grOf Γ ops) Q n (listed.setIfInBounds i true) a' w') a w:=by
  intro i n listed p regs H a w hc hd hr hp ih hk
  obtain ⟨o,ho,hk⟩:=nthO_ok _ hk
  have ho':ops[i]?=some o:=by simpa using ho
  unfold wpOp
  simp only [ho']
  refine oneK_ok hΔ hΓ ops o hc hk (fun regs' H' a' w' hk' hc' hg=>⟨fun hgr=>(hg ?_).stab,ih regs' H' a' w' hc' hk'⟩)
  simpa [grOf,ho'] using hgr
 intro p
 induction p with
 | done =>
  intro n listed m regs H a w hc hd hp hk
  cases m with
  | none =>
   simp only [planOk,List.isEmpty_iff] at hp
   simp only [drawK,Option.isSome] at hk
   cases n with
   | zero=>exact ⟨hp,hq _ _ _ _ hk hc⟩
   | succ n=>exact ⟨fun _=>hq _ _ _ _ hk hc,fun i hi=>by rw [hp] at hi;cases hi⟩
  | some rem =>
   simp only [planOk,List.isEmpty_iff] at hp
   subst hp
   intro i hi;cases hi
 | op i p ih =>
  intro n listed m regs H a w hc hd hp hk
  cases m with
  | some rem=>cases n<;>simp [planOk] at hp
  | none =>
   cases n with
   | zero=>simp [planOk] at hp
   | succ n =>
    simp only [planOk,Bool.and_eq_true,List.contains_iff_mem] at hp
    obtain ⟨⟨hr,hf⟩,hp⟩:=hp
    simp only [drawK] at hk
    obtain ⟨o,ho,hk⟩:=nthO_ok _ hk
    have ho':ops[i]?=some o:=by simpa using ho
    unfold freeB at hf
    simp only [ho',Bool.and_eq_true] at hf
    obtain ⟨hl,hf⟩:=hf
    obtain ⟨v,hy,regs',H',hk',hc'⟩:=light_ok hΔ ops o hl hc hk
    have hfree:∀ j oj,ops[j]?=some oj→j≠i→blockedB M i j=false→blockedB M j i=false→o.apart ops oj=true∧(isLoad o.op=true→growsK Γ oj.op=true):=by
     intro j oj hj hji hb hb2
     rw [List.all_eq_true] at hf
     have:=hf j (List.mem_range.2 (Array.getElem?_eq_some_iff.1 hj).1)
     simp only [hj,hb,hb2,Bool.or_eq_true,beq_iff_eq,Bool.and_eq_true,Bool.not_eq_true',Bool.false_eq_true,or_false] at this
     rcases this with h | ⟨h1,h2⟩
     ·exact absurd h hji
     ·refine ⟨h1,fun hld=>?_⟩
      rcases h2 with h2 | h2
      ·rw [hld] at h2;cases h2
      ·exact h2
    refine wpAnyG_first (R:=fun w w'=>isLoad o.op=true→Stab w w') ⟨fun w _=>Stab.refl w,fun a b c h1 h2 h=>(h1 h).trans (h2 h)⟩ ho' hsel hQ ?_ n listed a w hd hr hy (ih n _ none regs' H' _ _ hc' (hd.set hr) hp hk')
    intro j oj hj hji hb hb2
    have nb:∀ x y,¬Behind ops x y→blockedB M x y=false:=fun x y h=>by
     cases hh:blockedB M x y with
     | false=>rfl
     | true=>exact absurd (hM x y hh) h
    obtain ⟨h1,h2⟩:=hfree j oj hj hji (nb _ _ hb) (nb _ _ hb2)
    exact ⟨h1,fun w w' h hld=>h (by simpa [grOf,hj] using h2 hld)⟩
 | alt i p q ihp ihq =>
  intro n listed m regs H a w hc hd hp hk
  cases n with
  | zero=>cases m<;>simp [planOk] at hp
  | succ n =>
   obtain ⟨hk1,hk2⟩:(nthO ops.toList i fun o=>oneK Δ Γ ops.toList o regs H fun regs' H'=>drawK Δ Γ ops.toList p false regs' H' K)∧drawK Δ Γ ops.toList q true regs H K:=by
    cases q with
    | done=>exact ⟨by simpa only [drawK] using hk,trivial⟩
    | _=>simpa only [drawK] using hk
   cases m with
   | none =>
    simp only [planOk,Bool.and_eq_true,List.contains_iff_mem] at hp
    obtain ⟨⟨hr,hp⟩,hpq⟩:=hp
    have h1:=heavy i n listed p regs H a w hc hd hr hp (fun regs H a w hc hk=>ihp n _ none regs H a w hc (hd.set hr) hp hk) hk1
    have h2:=ihq (n+1) listed (some _) regs H a w hc hd hpq hk2
    refine ⟨fun h=>(by rw [h] at hr;cases hr),fun j hj=>?_⟩
    by_cases hji:j=i
    ·subst hji;exact h1
    ·exact h2 j (List.mem_filter.2 ⟨hj,by simpa using hji⟩) hj
   | some rem =>
    simp only [planOk,Bool.and_eq_true] at hp
    obtain ⟨hp,hpq⟩:=hp
    have h2:=ihq (n+1) listed (some _) regs H a w hc hd hpq hk2
    intro j hj hr
    by_cases hji:j=i
    ·subst hji
     exact heavy j n listed p regs H a w hc hd hr hp (fun regs H a w hc hk=>ihp n _ none regs H a w hc (hd.set hr) hp hk) hk1
    ·exact h2 j (List.mem_filter.2 ⟨hj,by simpa using hji⟩) hr
theorem Conc.drew {B:Base} {regs:List SV} {H:List Entry} {a:Act} {w:World} (h:Conc B regs H a w):Conc B regs H a {w with drawn:=w.drawn+1}:=by
 obtain ⟨E,hw,hI,hd,hdef⟩:=h
 subst hw
 have hle:E.le ⟨E.S,{E.w with drawn:=E.w.drawn+1},E.ids⟩:=⟨fun b h=>h,fun b h=>rfl,fun i v h=>h⟩
 refine ⟨⟨E.S,{E.w with drawn:=E.w.drawn+1},E.ids⟩,rfl,?_,dens_mono hle _ _ hd,hdef⟩
 exact ⟨⟨hI.keeps.os,hI.keeps.tape,hI.keeps.output,hI.keeps.size,hI.keeps.block⟩,hI.Slt,hI.Sold,hI.len,hI.pin,fun i e hi=>eden_keep hle i e (fun _ _ _ _ _=>rfl) (hI.ent i e hi),hI.free,hI.sep⟩
theorem drawn_ok {Δ:Tab} (hΔ:Δ.ok P) {Γ:Gam} (hΓ:Γ.ok P) {B:Base} {id:Nat} {Q:Exit→Act→World→Prop} (hm:P.follows .mixedOrders=true) {M:List Nat} (hM:masksGo ops.toList []=M) {p:DPlan} (hs:noSelectB ops=true)
  (hp:planOk Γ ops M p ops.size (Array.replicate ops.size false) none=true) {regs:List SV} {H:List Entry} {a:Act} {w:World} (hc:Conc B regs H a w)
  {K:List SV→List Entry→Prop} (hk:drawK Δ Γ ops.toList p false regs H K)
  (hq:∀ regs' H' a' w',K regs' H'→Conc B regs' H' a' w'→Q .normal a' w'):(Code.region id ops true).wp P Q a w:=by
 refine Code.wp_mono (Q:=fun e a w=>e=.normal∧Q e a w) (fun e a w h=>h.2) ?_
 refine wp_region_any hm (wpAny_of_G (gr:=grOf Γ ops) _ _ _ _ ?_)
 have hMb:∀ i j,blockedB M i j=true→Behind ops i j:=by
  intro i j h
  unfold blockedB at h
  cases hj:M[j]? with
  | none=>simp [hj] at h
  | some m =>
   rw [←hM] at hj
   exact masksGo_ok ops.toList [] (by simp) (by simp) j m hj i (by
    rw [hM] at hj
    simpa [hj] using h)
 refine drawK_ok hMb hΔ hΓ (Q:=fun e a w=>e=.normal∧Q e a w) (fun c a w h=>by cases h.1) hs (fun regs' H' a' w' h1 h2=>⟨rfl,hq regs' H' a' w' h1 h2⟩) p ops.size _ none regs H a _ hc.drew ?_ hp hk
 intro j oj e hj hl
 have hlt:j<ops.size:=(Array.getElem?_eq_some_iff.1 hj).1
 simp [hlt] at hl
end
end Go.Sx
