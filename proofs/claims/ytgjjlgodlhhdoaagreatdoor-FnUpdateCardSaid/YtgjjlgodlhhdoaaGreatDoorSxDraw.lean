/-
  A region that draws its order: a plan of it; the operations that only look are taken as soon as they can be; for the others every order is walked.
-/
import Derived.Test.YtgjjlgodlhhdoaaGreatDoorSxRen
import Derived.Orders
namespace Go.Sx
set_option linter.unusedVariables false
set_option linter.unusedSimpArgs false
inductive J5
 | done
 | op (i:Nat) (p:J5)
 | ld (i:Nat) (p:J5)
 | alt (i:Nat) (p q:J5)
 | can (p:J5)
def J5.o:List Nat->J5->J5
 | [],p=>p
 | i::r,p=>.op i (J5.o r p)
def J5.u:Nat->Nat->J5->J5
 | _,0,p=>p
 | a,n+1,p=>.op a (J5.u (a+1) n p)
def J5.l:List Nat->J5->J5
 | [],p=>p
 | i::r,p=>.ld i (J5.l r p)
def J5.a:List Nat->J5->J5
 | [],p=>p
 | i::r,p=>.alt i (J5.a r p) .done
def J5.core:J5->J5
 | .can p=>p
 | p=>p
section
variable {P:Program} {ops:Array Oper}
inductive Behind (ops:Array Oper) (i:Nat):Nat->Prop
 | edge {j:Nat} {oj:Oper} {e:Edge}:ops[j]?=some oj->e∈oj.after->Region.binds .any e=true->e.on=i->Behind ops i j
 | step {j:Nat} {oj:Oper} {e:Edge}:ops[j]?=some oj->e∈oj.after->Region.binds .any e=true->Behind ops i e.on->Behind ops i j
def ZpS (acc:List Nat) (l:List Edge) (m:Nat):Nat :=
 match l with
 | []=>m
 | e::r=>ZpS acc r (if Region.binds .any e then (m ||| 2 ^ e.on) ||| acc.getD e.on 0 else m)
def ZkF:List Oper->List Nat->List Nat
 | [],acc=>acc
 | o::r,acc=>ZkF r (acc++[ZpS acc o.after.toList 0])
def ZaK (M:List Nat) (i j:Nat):Bool:=(M.getD j 0).testBit i
theorem ZnD {ops:Array Oper} {acc:List Nat} (hacc:∀ (j m:Nat),acc[j]?=some m->∀ i,m.testBit i=true->Behind ops i j) {j:Nat} {oj:Oper} (hj:ops[j]?=some oj) :
  ∀ (l:List Edge) (m:Nat),(∀ e∈l,e∈oj.after)->(∀ i,m.testBit i=true->Behind ops i j)->∀ i,(ZpS acc l m).testBit i=true->Behind ops i j
 | [],m,_,hm,i,h=>hm i h
 | e::r,m,hl,hm,i,h=>by
  unfold ZpS at h;refine ZnD hacc hj r _ (λe he=>hl e (by simp[he])) ?_ i h;intro k hk;split at hk
  ·rename_i hb
   rw[Nat.testBit_or,Nat.testBit_or,Nat.testBit_two_pow] at hk;simp only[Bool.or_eq_true,decide_eq_true_eq] at hk;rcases hk with (hk | hk) | hk
   ·exact hm k hk
   ·exact .edge hj (hl e (by simp)) hb hk
   ·cases ha:acc[e.on]? with
    | none=>simp[ha] at hk
    | some m'=>exact .step hj (hl e (by simp)) hb (hacc _ _ ha k (by simpa[ha] using hk))
  ·exact hm k hk
theorem ZlS {ops:Array Oper}:∀ (l:List Oper) (acc:List Nat),(∀ (k:Nat),l[k]?=ops[acc.length+k]?)->(∀ (j m:Nat),acc[j]?=some m->∀ i,m.testBit i=true->Behind ops i j)->
  ∀ (j m:Nat),(ZkF l acc)[j]?=some m->∀ i,m.testBit i=true->Behind ops i j
 | [],acc,_,h=>h
 | o::r,acc,hl,h=>by
  unfold ZkF;refine ZlS r _ (λk=>?_) ?_
  ·have:=hl (k+1)
   simpa[Nat.add_assoc,Nat.add_comm 1 k] using this
  ·intro j m hj i hi
   have hlt:=(List.getElem?_eq_some_iff.1 hj).1;rw[List.length_append,List.length_singleton] at hlt;by_cases hja:j<acc.length
   ·rw[List.getElem?_append_left hja] at hj
    exact h j m hj i hi
   ·have:j=acc.length:=by omega
    subst this;rw[List.getElem?_append_right (by omega)] at hj;simp at hj;subst hj;have h0:ops[acc.length]?=some o:=by simpa using (hl 0).symm
    exact ZnD h h0 _ 0 (λe he=>by simpa using he) (λi hi=>by simp at hi) i hi
def Down (ops:Array Oper) (listed:Array Bool):Prop:=∀ (j:Nat) (oj:Oper) (e:Edge),ops[j]?=some oj->listed.getD j false=true->e∈oj.after->Region.binds .any e=true->listed.getD e.on false=true
theorem Down.set {listed:Array Bool} (h:Down ops listed) {i:Nat} (hr:i∈Region.ready .any ops listed):Down ops (listed.setIfInBounds i true):=by
 intro j oj e hj hl he hb;by_cases hij:i=j
 ·subst hij
  obtain ⟨_,o,ho,hall⟩:=mem_ready.1 hr;rw[hj] at ho;injection ho with ho;subst ho
  exact getD_set_true (hall e he hb)
 ·rw[getD_set_ne false hij] at hl
  exact getD_set_true (h j oj e hj hl he hb)
theorem ZiV {listed:Array Bool} (hd:Down ops listed) {i:Nat} (hi:listed.getD i false=false):∀ (j:Nat),Behind ops i j->j ∉ Region.ready .any ops listed/\listed.getD j false=false:=by
 intro j h;have fin:∀ {j:Nat} {oj:Oper} {e:Edge},ops[j]?=some oj->e∈oj.after->Region.binds .any e=true->listed.getD e.on false=false->j ∉ Region.ready .any ops listed/\listed.getD j false=false:=by
  intro j oj e hj he hb hun;constructor
  ·intro hr
   obtain ⟨_,o,ho,hall⟩:=mem_ready.1 hr;rw[hj] at ho;injection ho with ho;subst ho
   have:=hall e he hb;rw[hun] at this;cases this
  ·cases hl:listed.getD j false with
   | false=>rfl
   | true =>
    have:=hd j oj e hj hl he hb;rw[hun] at this;cases this
 induction h with
 | edge hj he hb hon=>exact fin hj he hb (by rw[hon];exact hi)
 | step hj he hb _ ih=>exact fin hj he hb ih.2
def Lit (P:Program) (ops:Array Oper) (R:World->World->Prop) (o:Oper) (v:Value) (a:Act) (w:World):Prop :=
 (Region.wanted o (yielded ops a.tmps)=true/\∀ w',R w w'->(execOp a.eval o).run P w'=.ok (.value v) w')\/(Region.wanted o (yielded ops a.tmps)=false/\v=undef)
structure Way (R:World->World->Prop):Prop where
 refl:∀ w,R w w
 trans:∀ a b c,R a b->R b c->R a c
def Zi7 (P:Program) (ops:Array Oper) (G:Nat->World->World->Prop) (Q:Exit->Act->World->Prop):Nat->Array Bool->Act->World->Prop
 | 0,listed,a,w=>Region.ready .any ops listed=[]/\Q .normal a w
 | fuel+1,listed,a,w=>(Region.ready .any ops listed=[]->Q .normal a w)/\
  ∀ i∈Region.ready .any ops listed,wpOp P ops Q i (λa' w'=>G i w w'/\Zi7 P ops G Q fuel (listed.setIfInBounds i true) a' w') a w
theorem Zl8 {G:Nat->World->World->Prop} {Q:Exit->Act->World->Prop}:∀ (fuel:Nat) (listed:Array Bool) (a:Act) (w:World),Zi7 P ops G Q fuel listed a w->wpAny P .any ops Q fuel listed a w
 | 0,_,_,_,h=>h
 | fuel+1,_,_,_,h=>⟨h.1,λi hi=>wpOp_mono (λa' w' hh=>Zl8 fuel _ a' w' hh.2) (h.2 i hi)⟩
theorem Lit.wpOp {R:World->World->Prop} (hR:Way R) {Q:Exit->Act->World->Prop} {i:Nat} {o:Oper} {v:Value} {a:Act} {w:World} (hi:ops[i]?=some o) (hy:Lit P ops R o v a w)
  {K:Act->World->Prop} (h:K (a.put o.dst v) w):Go.wpOp P ops Q i K a w:=by
 unfold Go.wpOp;simp only[hi];rcases hy with ⟨hw,hv⟩ | ⟨hw,rfl⟩
 ·simp only[hw,if_true,Oper.wp,hv w (hR.refl w),Oper.upon];exact .inl h
 ·simp only[hw,Bool.false_eq_true,if_false];exact h
theorem Ztc {R:World->World->Prop} (hR:Way R) {Q:Exit->Act->World->Prop} {j:Nat} {oi oj:Oper} {v:Value} (hj:ops[j]?=some oj) (hap:oi.apart ops oj=true)
  (hsi:∀ cs b,oi.op≠.select cs b) (hsj:∀ cs b,oj.op≠.select cs b) (hQ:∀ c a w,¬Q (.panic c) a w) {G1:World->World->Prop} (hgr:∀ w w',G1 w w'->R w w')
  {K:Act->World->Prop} {a:Act} {w:World} (hy:Lit P ops R oi v a w) (h:wpOp P ops Q j (λa' w'=>G1 w w'/\K a' w') (a.put oi.dst v) w) :
  wpOp P ops Q j (λa' w'=>G1 w w'/\Lit P ops R oi v a' w'/\K (a'.put oi.dst v) w') a w:=by
 obtain ⟨h1,h2,h3⟩:=Oper.apart_spec hap;have keep:∀ (a':Act) (w':World),execOp a'.eval oi=execOp a.eval oi->Region.wanted oi (yielded ops a'.tmps)=Region.wanted oi (yielded ops a.tmps)->R w w'->Lit P ops R oi v a' w':=by
  intro a' w' he hw hr;unfold Lit at *;rw[he,hw];rcases hy with ⟨a1,a2⟩ | a1
  ·exact .inl ⟨a1,λw'' h''=>a2 w'' (hR.trans _ _ _ hr h'')⟩
  ·exact .inr a1
 have keepP:∀ (u:Value) (w':World),R w w'->Lit P ops R oi v (a.put oj.dst u) w':=λu w' hr=>keep _ _ (execOp_put oi hsi a oj.dst u h3) (wanted_put oi a oj.dst u h3) hr;have keepD:∀ (d:Deferred) (u:Value) (w':World),R w w'->Lit P ops R oi v (({a with defers:=d::a.defers}:Act).put oj.dst u) w':=λd u w' hr =>
  keep _ _ ((execOp_put oi hsi ({a with defers:=d::a.defers}:Act) oj.dst u h3).trans rfl) ((wanted_put oi ({a with defers:=d::a.defers}:Act) oj.dst u h3).trans rfl) hr
 unfold wpOp at *;simp only[hj] at *;rw[wanted_put oj a oi.dst v h1] at h;split
 ·rename_i hw
  simp only[hw,if_true] at h;rcases h with h | ⟨hasks,hlets⟩
  case inr=>exact .inr ⟨by unfold Oper.asks at *;rw[execOp_put oj hsj a oi.dst v h1] at hasks;exact hasks,hlets⟩
  refine .inl ?_;unfold Oper.wp at *;rw[execOp_put oj hsj a oi.dst v h1] at h;generalize (execOp a.eval oj).run P w=r at *;cases r with
  | ok n w' =>
   cases n<;>simp only[Oper.upon] at h ⊢
   case value u=>exact ⟨h.1,keepP u w' (hgr _ _ h.1),by rw[<-Act.put_comm a v u h2];exact h.2⟩
   case skip=>exact ⟨h.1,keepP _ w' (hgr _ _ h.1),by rw[<-Act.put_comm a v undef h2];exact h.2⟩
   case defer d =>
    refine ⟨h.1,keepD d _ w' (hgr _ _ h.1),?_⟩;rw[<-Act.put_comm _ v undef h2,<-Act.put_defers];exact h.2
   case enter f args =>
    refine Calls.mono h λe w'' he=>?_;cases e with
    | returned u=>exact ⟨he.1,keepP u w'' (hgr _ _ he.1),by rw[<-Act.put_comm a v u h2];exact he.2⟩
    | panicked c=>exact absurd he (hQ _ _ _)
    | outgrown=>exact he
   case row row args=>exact Rows.mono h λu w'' he=>⟨he.1,keepP u w'' (hgr _ _ he.1),by rw[<-Act.put_comm a v u h2];exact he.2⟩
  | halt x w' =>
   cases x<;>simp only[Oper.upon] at h ⊢
   case panic u=>exact absurd h (hQ _ _ _)
 ·rename_i hw
  simp only[hw] at h;exact ⟨h.1,keepP _ w (hR.refl w),by rw[<-Act.put_comm a v undef h2];exact h.2⟩
theorem Zi8 {R:World->World->Prop} (hR:Way R) {Q:Exit->Act->World->Prop} {G:Nat->World->World->Prop} {i:Nat} {oi:Oper} {v:Value} (hi:ops[i]?=some oi) (hGi:∀ w,G i w w)
  (hsel:∀ (j:Nat) (o:Oper) cs b,ops[j]?=some o->o.op≠.select cs b) (hQ:∀ c a w,¬Q (.panic c) a w)
  (hfree:∀ j oj,ops[j]?=some oj->j≠i->¬Behind ops i j->¬Behind ops j i->oi.apart ops oj=true/\∀ w w',G j w w'->R w w') :
  ∀ (fuel:Nat) (listed:Array Bool) (a:Act) (w:World),Down ops listed->i∈Region.ready .any ops listed->Lit P ops R oi v a w->
   Zi7 P ops G Q fuel (listed.setIfInBounds i true) (a.put oi.dst v) w->Zi7 P ops G Q (fuel+1) listed a w:=by
 have hun:∀ listed:Array Bool,i∈Region.ready .any ops listed->listed.getD i false=false:=by
  intro listed hr;have h0:=(mem_ready.1 hr).1;rcases Nat.lt_or_ge i listed.size with h' | h'
  ·simpa[h'] using h0
  ·simp[Array.getElem?_eq_none h']
 intro fuel;induction fuel with
 | zero =>
  intro listed a w hd hr hy H;refine ⟨λh=>(by rw[h] at hr;cases hr),λj hj=>?_⟩;by_cases hji:j=i
  ·subst hji;exact hy.wpOp hR hi ⟨hGi w,H⟩
  ·have:=ready_mono hj hji
   rw[H.1] at this;cases this
 | succ fuel ih =>
  intro listed a w hd hr hy H;refine ⟨λh=>(by rw[h] at hr;cases hr),λj hj=>?_⟩;by_cases hji:j=i
  ·subst hji;exact hy.wpOp hR hi ⟨hGi w,H⟩
  ·have h1:=H.2 j (ready_mono hj hji)
   obtain ⟨hjun,oj,hoj,hall⟩:=mem_ready.1 hj;have hnb:¬Behind ops i j:=λhb=>(ZiV hd (hun _ hr) j hb).1 hj;have hnb2:¬Behind ops j i:=by
    intro hb;refine (ZiV hd ?_ i hb).1 hr;rcases Nat.lt_or_ge j listed.size with h' | h'
    ·simpa[h'] using hjun
    ·simp[Array.getElem?_eq_none h']
   obtain ⟨hap,hgr⟩:=hfree j oj hoj hji hnb hnb2;have h2:=Ztc hR hoj hap (λcs b=>hsel i oi cs b hi) (λcs b=>hsel j oj cs b hoj) hQ hgr hy h1;refine wpOp_mono (λa' w' h3=>⟨h3.1,ih (listed.setIfInBounds j true) a' w' (hd.set hj) (ready_mono hr (Ne.symm hji)) h3.2.1 ?_⟩) h2;rw[Array.setIfInBounds_comm _ _ hji];exact h3.2.2
def ZhZ (ops:Array Oper):Bool:=ops.all λo=>match o.op with
 | .select _ _=>false
 | _=>true
def ZwK (Γ:Gam) (ops:Array Oper) (M:List Nat) (i:Nat):Bool :=
 match ops[i]? with
 | none=>false
 | some oi=>J8 oi.op&&(List.range ops.size).all λj=>j == i||ZaK M i j||ZaK M j i||match ops[j]? with
  | none=>true
  | some oj=>oi.apart ops oj&&(!isLoad oi.op||Zgl Γ oj.op)
def Zzj:Op->Bool
 | .indexAddr _ _ _=>true
 | _=>false
def Zwt (ops:List Oper):Bool:=ops.all λo=>match o.op with
 | .store _ (.tmp t) _=>ops.any λo'=>(match o'.dst with
  | some d=>Nat.beq d t
  | none=>false)&&Zzj o'.op
 | .store _ _ _=>false
 | _=>true
def Zvl (st:Bool) (op:Op):Option Operand:=match op with
 | .store _ x _=>match st with
  | true=>some x
  | false=>none
 | op=>appArg op
theorem Zpe {st:Bool} {op:Op} {x:Operand} (h:Zvl st op=some x):appArg op=some x:=by
 unfold Zvl at h;split at h
 ·split at h
  ·exact h
  ·cases h
 ·exact h
def Zx8 (Γ:Gam) (st:Bool) (op:Op):Bool:=(Zvl st op).isSome||(ZgA Γ op).isSome
theorem Zxt {Γ:Gam} {op:Op} {x:Operand} (h:appArg op=some x):ZgA Γ op=none:=by
 unfold appArg at h;split at h
 ·rfl
 ·rfl
 ·cases h
def Zss (o:Oper):Bool:=match o.op,o.guard with
 | .load _ _,none=>true
 | _,_=>false
def ZwL (Γ:Gam) (ops:Array Oper) (M:List Nat) (i:Nat):Bool :=
 match ops[i]? with
 | none=>false
 | some oi=>Zss oi&&(List.range ops.size).all λj=>j == i||ZaK M i j||ZaK M j i||match ops[j]? with
  | none=>true
  | some oj=>oi.apart ops oj&&(Zgl Γ oj.op||Zx8 Γ (Zwt ops.toList) oj.op)
def Za4 (Γ:Gam) (ops:Array Oper) (M:List Nat):J5->Nat->Array Bool->Option (List Nat)->Bool
 | .done,_,listed,none=>(Region.ready .any ops listed).isEmpty
 | .done,_,_,some rem=>rem.isEmpty
 | .op i p,n+1,listed,none=>(Region.ready .any ops listed).contains i&&ZwK Γ ops M i&&Za4 Γ ops M p n (listed.setIfInBounds i true) none
 | .ld i p,n+1,listed,none=>(Region.ready .any ops listed).contains i&&ZwL Γ ops M i&&Za4 Γ ops M p n (listed.setIfInBounds i true) none
 | .alt i p q,n+1,listed,none=>(Region.ready .any ops listed).contains i&&Za4 Γ ops M p n (listed.setIfInBounds i true) none&&Za4 Γ ops M q (n+1) listed (some ((Region.ready .any ops listed).filter (· != i)))
 | .alt i p q,n+1,listed,some rem=>Za4 Γ ops M p n (listed.setIfInBounds i true) none&&Za4 Γ ops M q (n+1) listed (some (rem.filter (· != i)))
 | _,_,_,_=>false
def Zb7 (i:Nat):List Nat->Bool
 | []=>false
 | j::r=>Nat.beq j i||Zb7 i r
def Zgd:List Nat->List Entry->Prop->Prop
 | [],_,K=>K
 | i::r,H,K=>ZeE H i λe=>match e with
  | .box _=>Zgd r H K
  | _=>False
def wrK (V:List Nat) (regs:List SV) (H:List Entry):List Operand->Prop->Prop
 | [],K=>Zgd V H K
 | x::r,K=>Vh regs x λs=>match s with
  | .ptr i _=>Zb7 i V=false/\ZeE H i λe=>match e with
   | .box _=>wrK V regs H r K
   | _=>False
  | _=>False
def Zwm (Γ:Gam) (st:Bool) (V:List Nat) (regs:List SV) (H:List Entry) (op:Op) (K:Prop):Prop:=match V with
 | []=>K
 | _=>match Zvl st op with
  | none=>match ZgA Γ op with
   | none=>K
   | some xs=>wrK V regs H xs K
  | some x=>Vh regs x λs=>match s with
   | .nsl=>K
   | .own i=>Zb7 i V=false/\ZeE H i λe=>match e with
    | .arr _ _ _=>Zgd V H K
    | .darr _ _ _ _=>Zgd V H K
    | _=>False
   | .oep i _ _ _=>Zb7 i V=false/\ZeE H i λe=>match e with
    | .arr _ _ _=>Zgd V H K
    | .darr _ _ _ _=>Zgd V H K
    | .hole _ _ _ _ _ _=>Zgd V H K
    | _=>False
   | _=>False
def ldK (Δ:Tab) (V:List Nat) (o:Oper) (regs:List SV) (H:List Entry) (K:List SV->Prop):Prop:=match o.op,o.guard with
 | .load T x,none=>Zbq Δ T λti=>Vh regs x λs=>match s with
  | .ptr id off=>Zb7 id V=true/\ZeE H id λe=>match e with
   | .box cells=>Zgj cells off λcs=>Qw ti cs λr=>ZqT regs o.dst r K
   | _=>False
  | _=>False
 | _,_=>False
def Zwy:Prop:=True
def Zf8 (Δ:Tab) (Γ:Gam) (ops:List Oper) (V:List Nat):J5->Bool->List SV->List Entry->(List SV->List Entry->Prop)->Prop
 | .done,false,regs,H,K=>Zwy/\K regs H
 | .done,true,_,_,_=>True
 | .op i p,_,regs,H,K=>Zsk ops i λo=>Zrc Δ Γ ops o regs H λregs' H'=>Zf8 Δ Γ ops V p false regs' H' K
 | .ld i p,_,regs,H,K=>Zsk ops i λo=>ldK Δ V o regs H λregs'=>Zf8 Δ Γ ops V p false regs' H K
 | .can _,_,_,_,_=>False
 | .alt i p .done,_,regs,H,K=>Zsk ops i λo=>Zwm Γ (Zwt ops) V regs H o.op (Zrc Δ Γ ops o regs H λregs' H'=>Zf8 Δ Γ ops V p false regs' H' K)
 | .alt i p q,_,regs,H,K=>(Zsk ops i λo=>Zwm Γ (Zwt ops) V regs H o.op (Zrc Δ Γ ops o regs H λregs' H'=>Zf8 Δ Γ ops V p false regs' H' K))/\Zf8 Δ Γ ops V q true regs H K
def ZxG (Γ:Gam) (ops:Array Oper) (j:Nat):Bool:=match ops[j]? with
 | some o=>Zgl Γ o.op
 | none=>true
def Zvk (Γ:Gam) (ops:Array Oper) (j:Nat):Bool:=match ops[j]? with
 | some o=>Zx8 Γ (Zwt ops.toList) o.op
 | none=>false
def VOk (V:List Nat) (Bk:Nat->Option Nat) (E:Env):Prop:=∀ id,Zb7 id V=true->∃ b,Bk id=some b/\E.ids[id]?=some (.pointer (some ⟨b,0,none⟩))
theorem VOk.le {V:List Nat} {Bk:Nat->Option Nat} {E E':Env} (h:VOk V Bk E) (hle:E.le E'):VOk V Bk E':=λid hi=>by
 obtain ⟨b,h1,h2⟩:=h id hi;exact ⟨b,h1,hle.ids _ _ h2⟩
def Zla (B:Base) (V:List Nat) (Bk:Nat->Option Nat) (regs:List SV) (H:List Entry) (a:Act) (w:World):Prop :=
 ∃ E,VOk V Bk E/\E.w=w/\Inv B E H/\ZT E regs a.tmps.toList/\a.defers=[]
theorem Zla.Zzc {B:Base} {V:List Nat} {Bk:Nat->Option Nat} {regs:List SV} {H:List Entry} {a:Act} {w:World} (h:Zla B V Bk regs H a w):Conc B regs H a w:=by
 obtain ⟨E,_,h⟩:=h;exact ⟨E,h⟩
def Leaves (Γ:Gam) (ops:Array Oper) (V:List Nat) (Bk:Nat->Option Nat) (j:Nat) (w w':World):Prop :=
 (ZxG Γ ops j=true->Grow w w')/\(Zvk Γ ops j=true->∀ id b,Zb7 id V=true->Bk id=some b->b<w.heap.size->w'.heap[b]?=w.heap[b]?)
theorem Leaves.refl {Γ:Gam} {ops:Array Oper} {V:List Nat} {Bk:Nat->Option Nat} {j:Nat} (w:World):Leaves Γ ops V Bk j w w:=⟨λ_=>Grow.refl w,λ_ _ _ _ _ _=>rfl⟩
def Rb (b:Nat) (w w':World):Prop:=b<w.heap.size->b<w'.heap.size/\w'.heap[b]?=w.heap[b]?
theorem Rb.way (b:Nat):Way (Rb b):=⟨λw h=>⟨h,rfl⟩,λx y z h1 h2 h=>by
 obtain ⟨a1,a2⟩:=h1 h;obtain ⟨b1,b2⟩:=h2 a1;exact ⟨b1,b2.trans a2⟩⟩
theorem Rb.of {b:Nat} {w w':World} (h:b<w.heap.size->w'.heap[b]?=w.heap[b]?):Rb b w w':=λhb=>by
 refine ⟨?_,h hb⟩;have:=h hb;rw[Array.getElem?_eq_getElem hb] at this;exact (Array.getElem?_eq_some_iff.1 this).1
theorem Zge:∀ (V:List Nat) {H:List Entry} {K:Prop},Zgd V H K->K/\∀ id,Zb7 id V=true->∃ cells,H[id]?=some (.box cells)
 | [],H,K,h=>⟨h,λid hi=>by cases hi⟩
 | i::r,H,K,h=>by
  unfold Zgd at h;obtain ⟨e,he,h⟩:=Yy H h;split at h
  ·rename_i cells
   obtain ⟨hk,hr⟩:=Zge r h;refine ⟨hk,λid hi=>?_⟩;unfold Zb7 at hi;rcases Bool.or_eq_true _ _▸hi with hq | hq
   ·have:=Nat.eq_of_beq_eq_true hq
    subst this;exact ⟨cells,he⟩
   ·exact hr id hq
  ·exact h.elim
theorem Zvg {B:Base} {E:Env} {H:List Entry} (hI:Inv B E H) {regs:List SV} {a:Act} (hd:ZT E regs a.tmps.toList) {V:List Nat} {Bk:Nat->Option Nat} (hV:VOk V Bk E):∀ (xs:List Operand) {K:Prop},wrK V regs H xs K->
  K/\(∀ id,Zb7 id V=true->∃ cells,H[id]?=some (.box cells))/\∀ id b,Zb7 id V=true->Bk id=some b->∀ x∈xs,Yh (a.eval x)≠some b
 | [],K,h=>⟨(Zge V h).1,(Zge V h).2,λid b _ _ x hx=>by cases hx⟩
 | x::r,K,h=>by
  unfold wrK at h;obtain ⟨s,hs,h⟩:=Yb hd h;split at h
  ·rename_i i off
   obtain ⟨hn,h⟩:=h;obtain ⟨en,he,h⟩:=Yy H h;split at h
   ·rename_i cells
    obtain ⟨hk,hbox,hr⟩:=Zvg hI hd hV r h;refine ⟨hk,hbox,λid b hi hbk y hy=>?_⟩;rcases List.mem_cons.1 hy with rfl | hy
    ·simp only[den] at hs
     obtain ⟨b0,h1,h2⟩:=hs;rw[h2];intro e;simp only[Yh,Option.some.injEq] at e;subst e;obtain ⟨b',hb1,hb2⟩:=hV id hi;rw[hbk] at hb1;injection hb1 with hb1
     subst hb1;obtain ⟨cells',hc⟩:=hbox id hi;have hkid:i≠id:=λq=>by subst q;rw[hn] at hi;cases hi
     exact Zj3 hI hc hb2 he rfl h1 hkid (by simp[ZeY,Yh])
    ·exact hr id b hi hbk y hy
   ·exact h.elim
  ·exact h.elim
theorem Zvj {B:Base} {E:Env} {H:List Entry} (hI:Inv B E H) {regs:List SV} {a:Act} (hd:ZT E regs a.tmps.toList) {V:List Nat} {Bk:Nat->Option Nat} (hV:VOk V Bk E) {Γ:Gam} {st:Bool} {op:Op} {K:Prop} (h:Zwm Γ st V regs H op K) :
  (K/\∀ x,Zvl st op=some x->∀ w',E.w.grownBy w' (Yh (a.eval x))->∀ id b,Zb7 id V=true->Bk id=some b->b<E.w.heap.size->w'.heap[b]?=E.w.heap[b]?)/\
  ∀ xs,ZgA Γ op=some xs->∀ id b,Zb7 id V=true->Bk id=some b->∀ x∈xs,Yh (a.eval x)≠some b:=by
 unfold Zwm at h;split at h
 ·exact ⟨⟨h,λx _ w' _ id b hi=>by cases hi⟩,λxs _ id b hi=>by cases hi⟩
 ·split at h
  ·rename_i ha
   split at h
   ·rename_i hw
    exact ⟨⟨h,λx hx=>by rw[ha] at hx;cases hx⟩,λxs hx=>by rw[hw] at hx;cases hx⟩
   ·rename_i xs hw
    obtain ⟨hk,_,h2⟩:=Zvg hI hd hV xs h;exact ⟨⟨hk,λx hx=>by rw[ha] at hx;cases hx⟩,λys hy=>by rw[hw] at hy;injection hy with hy;subst hy;exact h2⟩
  ·rename_i x ha
   refine ⟨?_,λxs hx=>by rw[Zxt (Zpe ha)] at hx;cases hx⟩;obtain ⟨s,hs,h⟩:=Yb hd h;split at h
   ·simp only[den] at hs
    refine ⟨h,λy hy w' hg id b _ _ hb=>?_⟩;rw[ha] at hy;injection hy with hy;subst hy
    rw[hs] at hg;exact hg.block b hb (λe=>by simp[Yh] at e)
   ·rename_i k
    obtain ⟨hn,h⟩:=h;obtain ⟨en,he,h⟩:=Yy H h;simp only[den] at hs;have fin:∀ {K:Prop},Zgd V H K->en.live=true->(∀ g,Yh (a.eval x)=some g->ZeY en (a.eval x) g)->K/\∀ y,Zvl st op=some y->∀ w',E.w.grownBy w' (Yh (a.eval y))->∀ id b,Zb7 id V=true->Bk id=some b->b<E.w.heap.size->w'.heap[b]?=E.w.heap[b]?:=by
     intro K h hl hblk;obtain ⟨hk,hbox⟩:=Zge V h;refine ⟨hk,λy hy w' hg id b hi hbk hb=>?_⟩;rw[ha] at hy;injection hy with hy;subst hy
     obtain ⟨cells,hc⟩:=hbox id hi;obtain ⟨b',hb1,hb2⟩:=hV id hi;rw[hbk] at hb1;injection hb1 with hb1;subst hb1
     refine hg.block b hb (λe=>?_);have hkid:k≠id:=λq=>by subst q;rw[hn] at hi;cases hi
     exact Zj3 hI hc hb2 he hl hs.1 hkid (hblk b e.symm)
    split at h
    ·exact fin h rfl (λg hg=>hg)
    ·obtain ⟨v,xs,fps,e1,_,_,efp,_⟩:=hI.ent k _ he
     have:=hs.1.symm.trans e1;simp at this;subst this;exact fin h rfl (λg hg=>by simp only[ZeY];rw[efp,hg];simp)
    ·exact h.elim
   ·rename_i k sz i off
    obtain ⟨hn,h⟩:=h;obtain ⟨en,he,h⟩:=Yy H h;simp only[den] at hs;obtain ⟨g0,bo,n0,c0,hs1,hs2⟩:=hs;have fin:∀ {K:Prop},Zgd V H K->en.live=true->ZeY en (.slice (some ⟨g0,bo,none⟩) n0 c0) g0->K/\∀ y,Zvl st op=some y->∀ w',E.w.grownBy w' (Yh (a.eval y))->∀ id b,Zb7 id V=true->Bk id=some b->b<E.w.heap.size->w'.heap[b]?=E.w.heap[b]?:=by
     intro K h hl hblk;obtain ⟨hk,hbox⟩:=Zge V h;refine ⟨hk,λy hy w' hg id b hi hbk hb=>?_⟩;rw[ha] at hy;injection hy with hy;subst hy
     obtain ⟨cells,hc⟩:=hbox id hi;obtain ⟨b',hb1,hb2⟩:=hV id hi;rw[hbk] at hb1;injection hb1 with hb1;subst hb1
     refine hg.block b hb (λe=>?_);rw[hs2] at e;simp only[Yh,Option.some.injEq] at e;subst e;have hkid:k≠id:=λq=>by subst q;rw[hn] at hi;cases hi
     exact Zj3 hI hc hb2 he hl hs1 hkid hblk
    split at h
    ·exact fin h rfl rfl
    ·obtain ⟨v,xs,fps,e1,_,_,efp,_⟩:=hI.ent k _ he
     have:=hs1.symm.trans e1;simp at this;subst this;exact fin h rfl (by simp only[ZeY];rw[efp];simp[Yh])
    ·obtain ⟨v,xs,x1,vxs,x2,f1,f2,k1,ho,hi0,hi1,ex,el,el2,hr1,hr2,hdc,ef,hnd⟩:=hI.ent k _ he
     have:=hs1.symm.trans k1;simp at this;subst this;exact fin h rfl (by simp only[ZeY];rw[ef];simp[Yh])
    ·exact h.elim
   ·exact h.elim
theorem ZtB {M:List Nat} (hM:∀ i j,ZaK M i j=true->Behind ops i j) {Δ:Tab} (hΔ:Δ.ok P) {Γ:Gam} (hΓ:Γ.ok P) {B:Base} {V:List Nat} {Bk:Nat->Option Nat} {Q:Exit->Act->World->Prop} (hQ:∀ c a w,¬Q (.panic c) a w) (hs:ZhZ ops=true) {K:List SV->List Entry->Prop}
  (hq:∀ regs' H' a' w',K regs' H'->Zla B V Bk regs' H' a' w'->Q .normal a' w') :
  ∀ (p:J5) (n:Nat) (listed:Array Bool) (m:Option (List Nat)) (regs:List SV) (H:List Entry) (a:Act) (w:World),Zla B V Bk regs H a w->Down ops listed->Za4 Γ ops M p n listed m=true->Zf8 Δ Γ ops.toList V p m.isSome regs H K->
   match m with
   | none=>Zi7 P ops (Leaves Γ ops V Bk) Q n listed a w
   | some rem=>∀ i∈rem,i∈Region.ready .any ops listed->wpOp P ops Q i (λa' w'=>Leaves Γ ops V Bk i w w'/\Zi7 P ops (Leaves Γ ops V Bk) Q (n-1) (listed.setIfInBounds i true) a' w') a w:=by
 have hsel:∀ (j:Nat) (o:Oper) cs b,ops[j]?=some o->o.op≠.select cs b:=by
  intro j o cs b hj he;unfold ZhZ at hs;rw[Array.all_eq_true_iff_forall_mem] at hs;have:=hs o (Array.mem_of_getElem? hj);rw[he] at this;cases this
 have heavy:∀ (i n:Nat) (listed:Array Bool) (p:J5) (regs:List SV) (H:List Entry) (a:Act) (w:World),Zla B V Bk regs H a w->Down ops listed->i∈Region.ready .any ops listed->Za4 Γ ops M p n (listed.setIfInBounds i true) none=true->
   (∀ regs H a w,Zla B V Bk regs H a w->Zf8 Δ Γ ops.toList V p false regs H K->Zi7 P ops (Leaves Γ ops V Bk) Q n (listed.setIfInBounds i true) a w)->
   (Zsk ops.toList i λo=>Zwm Γ (Zwt ops.toList) V regs H o.op (Zrc Δ Γ ops.toList o regs H λregs' H'=>Zf8 Δ Γ ops.toList V p false regs' H' K))->
   wpOp P ops Q i (λa' w'=>Leaves Γ ops V Bk i w w'/\Zi7 P ops (Leaves Γ ops V Bk) Q n (listed.setIfInBounds i true) a' w') a w:=by
  intro i n listed p regs H a w hc hd hr hp ih hk;obtain ⟨o,ho,hk⟩:=ZiF _ hk;have ho':ops[i]?=some o:=by simpa using ho
  unfold wpOp;simp only[ho'];obtain ⟨E,hV,rfl,hI,hdn,hdef⟩:=hc;obtain ⟨⟨hk,happ⟩,hwrs⟩:=Zvj hI hdn hV hk;refine Zp1 hΔ hΓ ops o hI hdn hdef hk (λregs' H' a' E' hk' hI' hd' hdef' hle hg hap hwr=>⟨⟨λhgr=>hg ?_,λhb=>?_⟩,ih regs' H' a' E'.w ⟨E',hV.le hle,rfl,hI',hd',hdef'⟩ hk'⟩)
  ·simpa[ZxG,ho'] using hgr
  ·simp only[Zvk,ho',Zx8,Bool.or_eq_true,Option.isSome_iff_exists] at hb
   rcases hb with ⟨x,hx⟩ | ⟨xs,hx⟩
   ·exact happ x hx _ (hap x (Zpe hx))
   ·exact λid b hi hbk hlt=>hwr xs hx b hlt (hwrs xs hx id b hi hbk)
 intro p;induction p with
 | done =>
  intro n listed m regs H a w hc hd hp hk;cases m with
  | none =>
   simp only[Za4,List.isEmpty_iff] at hp;simp only[Zf8,Option.isSome] at hk;cases n with
   | zero=>exact ⟨hp,hq _ _ _ _ hk.2 hc⟩
   | succ n=>exact ⟨λ_=>hq _ _ _ _ hk.2 hc,λi hi=>by rw[hp] at hi;cases hi⟩
  | some rem =>
   simp only[Za4,List.isEmpty_iff] at hp;subst hp;intro i hi;cases hi
 | op i p ih =>
  intro n listed m regs H a w hc hd hp hk;cases m with
  | some rem=>cases n<;>simp[Za4] at hp
  | none =>
   cases n with
   | zero=>simp[Za4] at hp
   | succ n =>
    simp only[Za4,Bool.and_eq_true,List.contains_iff_mem] at hp;obtain ⟨⟨hr,hf⟩,hp⟩:=hp;simp only[Zf8] at hk;obtain ⟨o,ho,hk⟩:=ZiF _ hk;have ho':ops[i]?=some o:=by simpa using ho
    unfold ZwK at hf;simp only[ho',Bool.and_eq_true] at hf;obtain ⟨hl,hf⟩:=hf;obtain ⟨E,hV,rfl,hI,hdn,hdef⟩:=hc;obtain ⟨v,hy,regs',H',hk',E',hle',hw',hc'⟩:=ZnB hΔ ops o hl hI hdn hdef hk;have hfree:∀ j oj,ops[j]?=some oj->j≠i->ZaK M i j=false->ZaK M j i=false->o.apart ops oj=true/\(isLoad o.op=true->Zgl Γ oj.op=true):=by
     intro j oj hj hji hb hb2;rw[List.all_eq_true] at hf;have:=hf j (List.mem_range.2 (Array.getElem?_eq_some_iff.1 hj).1);simp only[hj,hb,hb2,Bool.or_eq_true,beq_iff_eq,Bool.and_eq_true,Bool.not_eq_true',Bool.false_eq_true,or_false] at this;rcases this with h | ⟨h1,h2⟩
     ·exact absurd h hji
     ·refine ⟨h1,λhld=>?_⟩
      rcases h2 with h2 | h2
      ·rw[hld] at h2;cases h2
      ·exact h2
    refine Zi8 (R:=λw w'=>isLoad o.op=true->Zmd w w') ⟨λw _=>Zmd.refl w,λa b c h1 h2 h=>(h1 h).trans (h2 h)⟩ ho' (λw=>Leaves.refl w) hsel hQ ?_ n listed a E.w hd hr hy (ih n _ none regs' H' _ _ ⟨E',hV.le hle',hw',hc'⟩ (hd.set hr) hp hk');intro j oj hj hji hb hb2;have nb:∀ x y,¬Behind ops x y->ZaK M x y=false:=λx y h=>by
     cases hh:ZaK M x y with
     | false=>rfl
     | true=>exact absurd (hM x y hh) h
    obtain ⟨h1,h2⟩:=hfree j oj hj hji (nb _ _ hb) (nb _ _ hb2);exact ⟨h1,λw w' h hld=>(h.1 (by simpa[ZxG,hj] using h2 hld)).ZBJ⟩
 | ld i p ih =>
  intro n listed m regs H a w hc hd hp hk;cases m with
  | some rem=>cases n<;>simp[Za4] at hp
  | none =>
   cases n with
   | zero=>simp[Za4] at hp
   | succ n =>
    simp only[Za4,Bool.and_eq_true,List.contains_iff_mem] at hp;obtain ⟨⟨hr,hf⟩,hp⟩:=hp;simp only[Zf8] at hk;obtain ⟨o,ho,hk⟩:=ZiF _ hk;have ho':ops[i]?=some o:=by simpa using ho
    obtain ⟨E,hV,rfl,hI,hdn,hdef⟩:=hc;unfold ZwL at hf;simp only[ho',Bool.and_eq_true] at hf;obtain ⟨_,hf⟩:=hf;unfold ldK at hk;split at hk
    ·rename_i T x hop hg
     obtain ⟨ti,ht,hk⟩:=YV Δ hΔ hk;obtain ⟨s,hs1,hk⟩:=Yb hdn hk;split at hk
     ·rename_i id off
      obtain ⟨hid,hk⟩:=hk;obtain ⟨en,he,hk⟩:=Yy H hk;split at hk
      ·rename_i cells
       obtain ⟨b,u,r,hb,hrun,hden,hk⟩:=ZqF hI ht hs1 he hk;obtain ⟨b',hbk,hb'⟩:=hV id hid;have:=hb.symm.trans hb';simp at this;subst this;have hlt:b<E.w.heap.size:=(hI.free id _ _ b he rfl hb (by simp[ZeY,Yh])).2.2;obtain ⟨regs',hd',hk',hdf⟩:=Zh1 (dst:=o.dst) (v:=u) hdn hden hk;have hlit:Lit P ops (Rb b) o u a E.w:=by
        refine .inl ⟨by simp[Region.wanted,hg],λw' hw'=>?_⟩;have h1:=hrun w' (hw' hlt).2;obtain ⟨dst,op,type,pos,after,guard⟩:=o;simp only at hop;subst hop;show Sem.run P (do pure (Next.value (<-Instr.loadAt T (a.eval x))):Sem Next) w'=_;rw[Sem.run_bind,h1];rfl
       refine Zi8 (R:=Rb b) (Rb.way b) ho' (λw=>Leaves.refl w) hsel hQ ?_ n listed a E.w hd hr hlit (ih n _ none regs' H _ _ ⟨E,hV,rfl,hI,hd',by rw[hdf];exact hdef⟩ (hd.set hr) hp hk');intro j oj hj hji hb1 hb2;have nb:∀ x y,¬Behind ops x y->ZaK M x y=false:=λx y h=>by
        cases hh:ZaK M x y with
        | false=>rfl
        | true=>exact absurd (hM x y hh) h
       rw[List.all_eq_true] at hf;have:=hf j (List.mem_range.2 (Array.getElem?_eq_some_iff.1 hj).1);simp only[hj,nb _ _ hb1,nb _ _ hb2,Bool.or_eq_true,beq_iff_eq,Bool.and_eq_true,Bool.false_eq_true,or_false] at this;rcases this with h | ⟨h1,h2⟩
       ·exact absurd h hji
       ·refine ⟨h1,λw w' hlv=>Rb.of λhbl=>?_⟩
        rcases h2 with h2 | h2
        ·exact hlv.1 (by simpa[ZxG,hj] using h2) b hbl
        ·exact hlv.2 (by simpa[Zvk,hj] using h2) id b hid hbk hbl
      ·exact hk.elim
     ·exact hk.elim
    ·exact hk.elim
 | can p ih =>
  intro n listed m regs H a w hc hd hp hk;cases n<;>cases m<;>simp[Za4] at hp
 | alt i p q ihp ihq =>
  intro n listed m regs H a w hc hd hp hk;cases n with
  | zero=>cases m<;>simp[Za4] at hp
  | succ n =>
   obtain ⟨hk1,hk2⟩:(Zsk ops.toList i λo=>Zwm Γ (Zwt ops.toList) V regs H o.op (Zrc Δ Γ ops.toList o regs H λregs' H'=>Zf8 Δ Γ ops.toList V p false regs' H' K))/\Zf8 Δ Γ ops.toList V q true regs H K:=by
    cases q with
    | done=>exact ⟨by simpa only[Zf8] using hk,trivial⟩
    | _=>simpa only[Zf8] using hk
   cases m with
   | none =>
    simp only[Za4,Bool.and_eq_true,List.contains_iff_mem] at hp;obtain ⟨⟨hr,hp⟩,hpq⟩:=hp;have h1:=heavy i n listed p regs H a w hc hd hr hp (λregs H a w hc hk=>ihp n _ none regs H a w hc (hd.set hr) hp hk) hk1;have h2:=ihq (n+1) listed (some _) regs H a w hc hd hpq hk2;refine ⟨λh=>(by rw[h] at hr;cases hr),λj hj=>?_⟩;by_cases hji:j=i
    ·subst hji;exact h1
    ·exact h2 j (List.mem_filter.2 ⟨hj,by simpa using hji⟩) hj
   | some rem =>
    simp only[Za4,Bool.and_eq_true] at hp;obtain ⟨hp,hpq⟩:=hp;have h2:=ihq (n+1) listed (some _) regs H a w hc hd hpq hk2;intro j hj hr;by_cases hji:j=i
    ·subst hji
     exact heavy j n listed p regs H a w hc hd hr hp (λregs H a w hc hk=>ihp n _ none regs H a w hc (hd.set hr) hp hk) hk1
    ·exact h2 j (List.mem_filter.2 ⟨hj,by simpa using hji⟩) hr
def ZvB (Δ:Tab) (Γ:Gam) (ops:List Oper) (V:List Nat) (p:J5) (regs:List SV) (H:List Entry) (K:List SV->List Entry->Prop):Prop:=match p with
 | .can p=>Zf8 Δ Γ ops V p false regs H λregs' H'=>Zoj H 0 λn=>canonK n regs' H' K
 | p=>Zf8 Δ Γ ops V p false regs H K
def Zr3:J5->Bool
 | .done=>false
 | .op _ p=>Zr3 p
 | .ld _ _=>true
 | .alt _ p q=>Zr3 p||Zr3 q
 | .can p=>Zr3 p
def Zm8:Nat->List Entry->(List Nat->Prop)->Prop
 | _,[],K=>K []
 | n,e::r,K=>Zm8 (n+1) r λV=>match e with
  | .box _=>K (n::V)
  | _=>K V
def ZvC (i:Nat):List Nat->(List Nat->Prop)->Prop
 | [],K=>K []
 | j::r,K=>ZvC i r λr'=>match Nat.beq j i with
  | true=>K r'
  | false=>K (j::r')
def ZtG:List SV->Nat->List Nat->(List Nat->Prop)->Prop
 | [],_,V,K=>K V
 | s::_,0,V,K=>match s with
  | .ptr i _=>ZvC i V K
  | _=>K V
 | _::r,n+1,V,K=>ZtG r n V K
def ZsT (t:Nat):List Oper->Nat
 | []=>t
 | o::r=>match o.dst,o.op with
  | some d,.move (.tmp t')=>match Nat.beq d t with
   | true=>t'
   | false=>ZsT t r
  | _,_=>ZsT t r
def Znl (all:List Oper) (regs:List SV):List Operand->List Nat->(List Nat->Prop)->Prop
 | [],V,K=>K V
 | x::r,V,K=>match x with
  | .tmp t=>ZtG regs (ZsT t all) V λV'=>Znl all regs r V' K
  | _=>Znl all regs r V K
def Zj7 (Γ:Gam) (all:List Oper) (regs:List SV):List Oper->List Nat->(List Nat->Prop)->Prop
 | [],V,K=>K V
 | o::r,V,K=>match ZgA Γ o.op with
  | none=>Zj7 Γ all regs r V K
  | some xs=>Znl all regs xs V λV'=>Zj7 Γ all regs r V' K
theorem Zpw (i:Nat):∀ (V:List Nat) {K:List Nat->Prop},ZvC i V K->∃ V',K V'/\∀ id,Zb7 id V'=true->Zb7 id V=true
 | [],K,h=>⟨[],h,λid h=>h⟩
 | j::r,K,h=>by
  obtain ⟨r',h2,hr⟩:=Zpw i r h;clear h;split at h2
  ·exact ⟨r',h2,λid h=>by unfold Zb7;rw[hr id h,Bool.or_true]⟩
  ·refine ⟨j::r',h2,λid h=>?_⟩
   unfold Zb7 at h ⊢;rcases Bool.or_eq_true _ _▸h with h | h
   ·rw[h,Bool.true_or]
   ·rw[hr id h,Bool.or_true]
theorem Zpx:∀ (l:List SV) (n:Nat) (V:List Nat) {K:List Nat->Prop},ZtG l n V K->∃ V',K V'/\∀ id,Zb7 id V'=true->Zb7 id V=true
 | [],_,V,K,h=>⟨V,h,λid h=>h⟩
 | s::_,0,V,K,h=>by
  unfold ZtG at h;split at h
  ·exact Zpw _ V h
  ·exact ⟨V,h,λid h=>h⟩
 | _::r,n+1,V,K,h=>Zpx r n V h
theorem Zj8 (all:List Oper) (regs:List SV):∀ (xs:List Operand) (V:List Nat) {K:List Nat->Prop},Znl all regs xs V K->∃ V',K V'/\∀ id,Zb7 id V'=true->Zb7 id V=true
 | [],V,K,h=>⟨V,h,λid h=>h⟩
 | x::r,V,K,h=>by
  unfold Znl at h;split at h
  ·obtain ⟨V1,h1,a1⟩:=Zpx _ _ _ h
   obtain ⟨V2,h2,a2⟩:=Zj8 all regs r V1 h1;exact ⟨V2,h2,λid q=>a1 id (a2 id q)⟩
  ·exact Zj8 all regs r V h
theorem Zil (Γ:Gam) (all:List Oper) (regs:List SV):∀ (l:List Oper) (V:List Nat) {K:List Nat->Prop},Zj7 Γ all regs l V K->∃ V',K V'/\∀ id,Zb7 id V'=true->Zb7 id V=true
 | [],V,K,h=>⟨V,h,λid h=>h⟩
 | o::r,V,K,h=>by
  unfold Zj7 at h;split at h
  ·exact Zil Γ all regs r V h
  ·obtain ⟨V1,h1,a1⟩:=Zj8 _ _ _ _ h
   obtain ⟨V2,h2,a2⟩:=Zil Γ all regs r V1 h1;exact ⟨V2,h2,λid q=>a1 id (a2 id q)⟩
def ZtC (Γ:Gam) (ops:List Oper) (regs:List SV) (p:J5) (H:List Entry) (K:List Nat->Prop):Prop:=match Zr3 p with
 | false=>K []
 | true=>Zm8 0 H λV=>Zj7 Γ ops regs ops V K
theorem Zk7:∀ (H:List Entry) (n:Nat) {K:List Nat->Prop},Zm8 n H K->∃ V,K V/\∀ id,Zb7 id V=true->n<=id/\∃ cells,H[id-n]?=some (.box cells)
 | [],n,K,h=>⟨[],h,λid hi=>by cases hi⟩
 | e::r,n,K,h=>by
  obtain ⟨V,h2,hV⟩:=Zk7 r (n+1) h;clear h;have old:∀ id,Zb7 id V=true->n<=id/\∃ cells,(e::r)[id-n]?=some (.box cells):=by
   intro id hi;obtain ⟨a1,c,hc⟩:=hV id hi;refine ⟨by omega,c,?_⟩;rw[show id-n=(id-(n+1))+1 by omega,List.getElem?_cons_succ];exact hc
  split at h2
  ·rename_i cells
   refine ⟨_,h2,λid hi=>?_⟩;unfold Zb7 at hi;rcases Bool.or_eq_true _ _▸hi with hq | hq
   ·have:=Nat.eq_of_beq_eq_true hq
    subst this;exact ⟨Nat.le_refl _,cells,by rw[Nat.sub_self];rfl⟩
   ·exact old id hq
  ·exact ⟨_,h2,old⟩
theorem ZtD {Γ:Gam} {ops:List Oper} {regs:List SV} {p:J5} {H:List Entry} {K:List Nat->Prop} (h:ZtC Γ ops regs p H K):∃ V,K V/\∀ id,Zb7 id V=true->∃ cells,H[id]?=some (.box cells):=by
 unfold ZtC at h;split at h
 ·exact ⟨[],h,λid hi=>by cases hi⟩
 ·obtain ⟨V,h,hV⟩:=Zk7 H 0 h
  obtain ⟨V',h',hV'⟩:=Zil Γ ops regs ops V h;exact ⟨V',h',λid hi=>(hV id (hV' id hi)).2⟩
theorem Conc.drew {B:Base} {regs:List SV} {H:List Entry} {a:Act} {w:World} (h:Conc B regs H a w):Conc B regs H a {w with drawn:=w.drawn+1}:=by
 obtain ⟨E,hw,hI,hd,hdef⟩:=h;subst hw;have hle:E.le ⟨E.S,{E.w with drawn:=E.w.drawn+1},E.ids⟩:=⟨λb h=>h,λb h=>rfl,λi v h=>h⟩
 refine ⟨⟨E.S,{E.w with drawn:=E.w.drawn+1},E.ids⟩,rfl,?_,ZE hle _ _ hd,hdef⟩
 exact ⟨⟨hI.keeps.os,hI.keeps.tape,hI.keeps.output,hI.keeps.size,hI.keeps.block⟩,hI.Slt,hI.Sold,hI.len,hI.pin,λi e hi=>Zcc hle i e (λ_ _ _ _ _=>rfl) (hI.ent i e hi),hI.free,hI.sep⟩
theorem Zla.drew {B:Base} {V:List Nat} {Bk:Nat->Option Nat} {regs:List SV} {H:List Entry} {a:Act} {w:World} (h:Zla B V Bk regs H a w):Zla B V Bk regs H a {w with drawn:=w.drawn+1}:=by
 obtain ⟨E,hV,hw,hI,hd,hdef⟩:=h;subst hw;have hle:E.le ⟨E.S,{E.w with drawn:=E.w.drawn+1},E.ids⟩:=⟨λb h=>h,λb h=>rfl,λi v h=>h⟩
 refine ⟨⟨E.S,{E.w with drawn:=E.w.drawn+1},E.ids⟩,hV,rfl,?_,ZE hle _ _ hd,hdef⟩
 exact ⟨⟨hI.keeps.os,hI.keeps.tape,hI.keeps.output,hI.keeps.size,hI.keeps.block⟩,hI.Slt,hI.Sold,hI.len,hI.pin,λi e hi=>Zcc hle i e (λ_ _ _ _ _=>rfl) (hI.ent i e hi),hI.free,hI.sep⟩
theorem VOk.ex (V:List Nat) {B:Base} {E:Env} {H:List Entry} (hI:Inv B E H) (h:∀ id,Zb7 id V=true->∃ cells,H[id]?=some (.box cells)):∃ Bk,VOk V Bk E:=by
 refine ⟨λid=>match E.ids[id]? with
  | some (.pointer (some ⟨b,_,_⟩))=>some b
  | _=>none,λid hi=>?_⟩
 obtain ⟨cells,hc⟩:=h id hi;obtain ⟨b,_,_,h1,_⟩:=hI.ent id _ hc;exact ⟨b,by simp only[h1],h1⟩
theorem ZtE {Δ:Tab} (hΔ:Δ.ok P) {Γ:Gam} (hΓ:Γ.ok P) {B:Base} {id:Nat} {Q:Exit->Act->World->Prop} (hm:P.follows .mixedOrders=true) {M:List Nat} (hM:ZkF ops.toList []=M) {p:J5} (hs:ZhZ ops=true)
  (hp:Za4 Γ ops M p.core ops.size (Array.replicate ops.size false) none=true) {regs:List SV} {H:List Entry} {a:Act} {w:World} (hc:Conc B regs H a w)
  {K0:List SV->List Entry->Prop} (hk0:ZtC Γ ops.toList regs p.core H λV=>ZvB Δ Γ ops.toList V p regs H K0)
  (hq0:∀ regs' H' a' w',K0 regs' H'->Conc B regs' H' a' w'->Q .normal a' w'):(Code.region id ops true).wp P Q a w:=by
 obtain ⟨V,hk0,hVb⟩:=ZtD hk0;have hpin:∀ (i:Nat) (v:Value),B.pin[i]?=some v->i<H.length:=λi v hi=>by
  obtain ⟨E,_,hI,_⟩:=hc;have:=(List.getElem?_eq_some_iff.1 (hI.pin i v hi)).1;rw[hI.len] at this;exact this
 obtain ⟨K,hk,hq⟩:∃ K:List SV->List Entry->Prop,Zf8 Δ Γ ops.toList V p.core false regs H K/\∀ regs' H' a' w',K regs' H'->Conc B regs' H' a' w'->Q .normal a' w':=by
  unfold ZvB at hk0;split at hk0
  ·refine ⟨_,hk0,λregs' H' a' w' h hc'=>?_⟩
   rw[Zax,Nat.zero_add] at h;obtain ⟨regs2,H2,h2,hc2⟩:=Zrt hpin h hc';exact hq0 _ _ _ _ h2 hc2
  ·rename_i hne
   have hc0:p.core=p:=by
    cases p with
    | can q=>exact absurd rfl (hne q)
    | _=>rfl
   rw[hc0];exact ⟨K0,hk0,hq0⟩
 generalize p.core=p at hp hk;have hcv:∃ Bk,Zla B V Bk regs H a w:=by
  obtain ⟨E,hw,hI,hd,hdef⟩:=hc;obtain ⟨Bk,hV⟩:=VOk.ex V hI hVb;exact ⟨Bk,E,hV,hw,hI,hd,hdef⟩
 obtain ⟨Bk,hcv⟩:=hcv;refine Code.wp_mono (Q:=λe a w=>e=.normal/\Q e a w) (λe a w h=>h.2) ?_;refine wp_region_any hm (Zl8 (G:=Leaves Γ ops V Bk) _ _ _ _ ?_);have hMb:∀ i j,ZaK M i j=true->Behind ops i j:=by
  intro i j h;unfold ZaK at h;cases hj:M[j]? with
  | none=>simp[hj] at h
  | some m =>
   rw[<-hM] at hj;exact ZlS ops.toList [] (by simp) (by simp) j m hj i (by
    rw[hM] at hj;simpa[hj] using h)
 refine ZtB hMb hΔ hΓ (Q:=λe a w=>e=.normal/\Q e a w) (λc a w h=>by cases h.1) hs (λregs' H' a' w' h1 h2=>⟨rfl,hq regs' H' a' w' h1 h2.Zzc⟩) p ops.size _ none regs H a _ hcv.drew ?_ hp hk;intro j oj e hj hl;have hlt:j<ops.size:=(Array.getElem?_eq_some_iff.1 hj).1;simp[hlt] at hl
end
end Go.Sx
