/-
  Contracts of functions over data; a call by its contract.
-/
import Derived.Test.YtnnbgbgapogckaaGreatDoorSxRun
namespace Go.Sx
set_option linter.unusedVariables false
set_option linter.unusedSimpArgs false
inductive Sh
 | dat (t:Ty)
 | own (e:Dp)
 | io (e:Dp)
 | back (e:Dp)
@[reducible] def Sh.den:Sh→Type
 | .dat t=>t.den
 | .own e=>e.ty.den
 | .io e=>e.ty.den
 | .back e=>e.ty.den
@[reducible] def Shs:List Sh→Type
 | []=>Unit
 | s::r=>s.den×Shs r
@[reducible] def Ios:List Sh→Type
 | []=>Unit
 | .io e::r=>e.ty.den×Ios r
 | .back e::r=>e.ty.den×Ios r
 | .dat _::r=>Ios r
 | .own _::r=>Ios r
structure Ctr where
 args:List Sh
 rets:List Sh
 tr:Shs args→(Shs rets→Ios args→Prop)→Prop
def Zj5 (t:Ty) (v:Value):Prop:=(t.agg=true→∃ cs,v=.agg cs)∧(t.agg=false→v.cells=#[v])
def Zmw (S:Nat→Prop) (w:World) (t:Ty) (d:t.den) (v:Value):Prop :=
 (t.agg=true→∃ cs,v=.agg cs)∧(t.agg=false→v.cells=#[v])∧rep S w t d v.cells.toList
def Zil (S:Nat→Prop) (w:World):(s:Sh)→s.den→Value→List Nat→Prop
 | .dat t,d,v,fp=>fp=[]∧Zmw S w t d v
 | .own e,d,v,fp=>Zj5 e.ty v∧JK S w e d v.cells.toList fp
 | .back e,d,v,fp=>Zj5 e.ty v∧JK S w e d v.cells.toList fp
 | .io e,d,v,fp=>∃ b cs T f,v=.pointer (some ⟨b,0,none⟩)∧w.heap[b]?=some (.cells cs T (0,0))∧JK S w e d cs.toList f∧fp=b::f
def Vw (S:Nat→Prop) (w:World):(l:List Sh)→Shs l→List Value→List Nat→Prop
 | [],_,vs,fp=>vs=[]∧fp=[]
 | s::r,d,vs,fp=>∃ v vr f fr,vs=v::vr∧fp=f++fr∧Zil S w s d.1 v f∧Vw S w r d.2 vr fr
def Jd (S:Nat→Prop) (w:World):(l:List Sh)→Ios l→List Value→List Nat→Prop
 | [],_,_,fp=>fp=[]
 | .io e::r,d,vs,fp=>∃ v vr f fr,vs=v::vr∧fp=f++fr∧Zil S w (.io e) d.1 v f∧Jd S w r d.2 vr fr
 | .back e::r,d,vs,fp=>∃ v vr f fr,vs=v::vr∧fp=f++fr∧Zil S w (.back e) d.1 v f∧Jd S w r d.2 vr fr
 | .dat _::r,d,vs,fp=>∃ v vr,vs=v::vr∧Jd S w r d vr fp
 | .own _::r,d,vs,fp=>∃ v vr,vs=v::vr∧Jd S w r d vr fp
def retv (us:List Value) (v:Value):Prop :=
 match us with
 | [u]=>v=u
 | us=>v=.tuple us.toArray
def Ze1 (P:Program) (f:FuncId):Prop:=∃ fn,P.funcs[f]?=some fn∧(fn.name == "runtime.NumGoroutine")=false∧fn.body.isNone=false
def Zd (P:Program) (f:FuncId) (C:Ctr):Prop:=Ze1 P f∧
 ∀ (w:World) (S:Nat→Prop) (vs:List Value) (as:Shs C.args) (fp:List Nat) (K:Shs C.rets→Ios C.args→Prop),
  (∀ b,S b→b<w.heap.size)→Vw S w C.args as vs fp→fp.Nodup→(∀ g∈fp,¬S g∧g<w.heap.size)→C.tr as K→
  Calls P f vs.toArray w fun e w'=>∃ v us rs ios S' fr fio,e=.returned v∧retv us v∧K rs ios∧Keeps ⟨w,S,fun b=>b∈fp,[]⟩ w'∧(∀ b,S b→S' b)∧
   (∀ b,S' b→b<w'.heap.size∧(b<w.heap.size→S b∨b∈fp))∧Vw S' w' C.rets rs us fr∧Jd S' w' C.args ios vs fio∧
   (fio++fr).Nodup∧∀ g∈fio++fr,¬S' g∧g<w'.heap.size∧(w.heap.size≤g∨g∈fp)
def SV.isAgg:SV→Bool
 | .agg _=>true
 | _=>false
def Zmq (f:SV→List Entry→(SV→List Entry→Prop)→Prop):List SV→List Entry→(List SV→List Entry→Prop)→Prop
 | [],H,K=>K [] H
 | s::r,H,K=>f s H fun s' H1=>Zmq f r H1 fun r' H2=>K (s'::r') H2
def Zdm:Nat→SV→List Entry→(SV→List Entry→Prop)→Prop
 | 0,s,H,K=>K s H
 | n+1,s,H,K=>match s with
  | .ptr id 0=>Jk H id fun e=>match e with
   | .box cells=>Zmq (Zdm n) cells H fun cs0 H0=>YL cs0 H0 fun cs' H1=>Jk H1 id fun e1=>match e1 with
    | .box _=>JL H1 id (.fbx cs') fun H2=>K (.fptr cs') H2
    | _=>False
   | .fbx cells=>K (.fptr cells) H
   | _=>False
  | .own id=>Jk H id fun e=>match e with
   | .hole _ e d i cells _=>Zmq (Zdm n) cells H fun cs0 H0=>YL cs0 H0 fun cs' H1=>Z0 e.ty cs' fun x rest=>match rest with
    | []=>Jk H1 id fun e1=>match e1 with
     | .hole _ _ _ _ _ _=>JL H1 id (.frz e.ty (d.set i.toNat x)) fun H2=>K (.sl e.ty (d.set i.toNat x)) H2
     | _=>False
    | _=>False
   | _=>K (.own id) H
  | s=>K s H
def Zjg (s:SV) (H:List Entry) (K:SV→List Entry→Prop):Prop:=Zdm 3 s H K
def ZgP (cs:List SV) (H:List Entry) (K:List SV→List Entry→Prop):Prop:=Zmq Zjg cs H K
def Zje (s:SV) (H:List Entry) (K:List SV→List Entry→Prop):Prop :=
 match s with
 | .fn f caps=>ZgP caps H fun caps' H1=>K [.fn f caps'] H1
 | .ptr id off=>Zjg (.ptr id off) H fun s' H1=>K [s'] H1
 | s=>ZgP s.cells H fun cs0 H0=>YL cs0 H0 K
def ZfU (t:Ty) (cs:List SV) (K:SV→Prop):Prop :=
 if t.agg=true then K (.agg cs) else match cs with
  | c::_=>K c
  | []=>False
def ZcI:(l:List Sh)→List SV→List Entry→(Shs l→List Entry→Prop)→Prop
 | [],ss,H,K=>match ss with
  | []=>K () H
  | _=>False
 | .dat t::r,ss,H,K=>match ss with
  | s::ss=>if s.whole=true∧t.agg=s.isAgg then Zje s H fun cs H1=>Z0 t cs fun d rest=>match rest with
    | []=>ZcI r ss H1 fun ds H2=>K (d,ds) H2
    | _=>False
   else False
  | _=>False
 | .own e::r,ss,H,K=>match ss with
  | s::ss=>if s.whole=true∧e.ty.agg=s.isAgg then closeAll e s.cells H fun d H1=>ZcI r ss H1 fun ds H2=>K (d,ds) H2 else False
  | _=>False
 | .back e::r,ss,H,K=>match ss with
  | s::ss=>if s.whole=true∧e.ty.agg=s.isAgg then closeAll e s.cells H fun d H1=>ZcI r ss H1 fun ds H2=>K (d,ds) H2 else False
  | _=>False
 | .io e::r,ss,H,K=>match ss with
  | .ptr id 0::ss=>Jk H id fun en=>match en with
   | .box cells=>JL H id .gone fun H0=>closeAll e cells H0 fun d H1=>ZcI r ss H1 fun ds H2=>K (d,ds) H2
   | _=>False
  | _=>False
def Dp.closed:Dp→Bool
 | .flat t=>t.flat
 | .ol _ e=>e.closed
 | .pair a b=>a.closed&&b.closed
 | .mp k v=>k.flat&&v.flat
def Sh.flat:Sh→Bool
 | .dat t=>t.flat
 | .own e=>e.closed
 | .io e=>e.closed
 | .back e=>e.closed
def ZcY:List Sh→Bool
 | []=>true
 | s::r=>s.flat&&ZcY r
def Za6:List Sh→Bool
 | []=>true
 | .io e::r=>e.closed&&Za6 r
 | .back e::r=>e.closed&&Za6 r
 | _::r=>Za6 r
def VR:(e:Dp)→List SV→e.ty.den→List Entry→(List SV→List Entry→Prop)→Prop
 | .flat t,cs,_,H,K=>Zaq cs t.size fun r=>K r H
 | .ol et e,cs,d,H,K=>match cs with
  | .nsl::r=>K r H
  | .own id::r=>Zl2 et e id d H fun H'=>K r H'
  | _=>False
 | .mp k v,cs,d,H,K=>match cs with
  | .mown id::r=>JL H id (.mpe k v d) fun H'=>K r H'
  | _=>False
 | .pair a b,cs,d,H,K=>splitK d fun x y=>VR a cs x H fun r H1=>VR b r y H1 K
def Zit:(l:List Sh)→List SV→Ios l→List Entry→(List Entry→Prop)→Prop
 | [],_,_,H,K=>K H
 | .io e::r,ss,d,H,K=>match ss with
  | .ptr id 0::ss=>splitK d fun x d'=>Yu e x H fun cells H1=>JL H1 id (.box cells) fun H2=>Zit r ss d' H2 K
  | _=>False
 | .back e::r,ss,d,H,K=>match ss with
  | s::ss=>if s.whole=true then splitK d fun x d'=>VR e s.cells x H fun _ H1=>Zit r ss d' H1 K else False
  | _=>False
 | .dat _::r,ss,d,H,K=>match ss with
  | _::ss=>Zit r ss d H K
  | _=>False
 | .own _::r,ss,d,H,K=>match ss with
  | _::ss=>Zit r ss d H K
  | _=>False
def Zcp:(l:List Sh)→Shs l→List Entry→(List SV→List Entry→Prop)→Prop
 | [],_,H,K=>K [] H
 | .dat t::r,d,H,K=>splitK d fun x d'=>YK t x fun cs=>ZfU t cs fun s=>Zcp r d' H fun ss H'=>K (s::ss) H'
 | .own e::r,d,H,K=>splitK d fun x d'=>Yu e x H fun cs H1=>ZfU e.ty cs fun s=>Zcp r d' H1 fun ss H'=>K (s::ss) H'
 | .back e::r,d,H,K=>splitK d fun x d'=>Yu e x H fun cs H1=>ZfU e.ty cs fun s=>Zcp r d' H1 fun ss H'=>K (s::ss) H'
 | .io e::r,d,H,K=>splitK d fun x d'=>Yu e x H fun cs H1=>ZeM cs H1 fun s H2=>Zcp r d' H2 fun ss H'=>K (s::ss) H'
def Zgb (ss:List SV) (K:SV→Prop):Prop :=
 match ss with
 | [s]=>K s
 | ss=>K (.tup ss)
def Zhu:List Entry→(List Entry→Prop)→Prop
 | [],K=>K []
 | e::r,K=>Zhu r fun r'=>K (e::r')
theorem ZfX:∀ (l:List Entry) (K:List Entry→Prop),Zhu l K=K l
 | [],_=>rfl
 | e::r,K=>by unfold Zhu;exact ZfX r _
def ZlH (C:Ctr) (ss:List SV) (H:List Entry) (K:SV→List Entry→Prop):Prop :=
 ZcI C.args ss H fun as H1=>C.tr as fun rs ios =>
  if (ZcY C.rets&&Za6 C.args)=true then Zhu (ZcR H H1) fun H0=>Zit C.args ss ios H0 fun H2=>Zcp C.rets rs H2 fun ss' H3=>Zgb ss' fun s=>K s H3
  else Zit C.args ss ios H1 fun H2=>Zcp C.rets rs H2 fun ss' H3=>Zgb ss' fun s=>K s H3
def Zmz (B:Base) (f:SV→List Entry→(SV→List Entry→Prop)→Prop):Prop :=
 ∀ (E:Env) (H:List Entry),Inv B E H→∀ (s:SV) (v:Value),den E s v→∀ (K:SV→List Entry→Prop),f s H K→∃ E' H' s',Frz E H E' H'∧Inv B E' H'∧den E' s' v∧K s' H'
theorem Zfo {B:Base} {f:SV→List Entry→(SV→List Entry→Prop)→Prop} (hf:Zmz B f):∀ (cs:List SV) {E:Env} {H:List Entry} (_:Inv B E H) {vs:List Value} (_:Zy E cs vs) {K:List SV→List Entry→Prop} (_:Zmq f cs H K),
  ∃ E' H' cs',Frz E H E' H'∧Inv B E' H'∧Zy E' cs' vs∧K cs' H'
 | [],E,H,hI,vs,hd,K,hk=>⟨E,H,[],Frz.refl E H,hI,hd,hk⟩
 | s::r,E,H,hI,vs,hd,K,hk=>by
  match vs,hd with
  | [],hd=>simp [Zy] at hd
  | v::vs,hd =>
   simp only [Zy] at hd
   simp only [Zmq] at hk
   obtain ⟨E1,H1,s',hf1,hI1,hd1,hk⟩:=hf _ _ hI _ _ hd.1 _ hk
   obtain ⟨E2,H2,r',hf2,hI2,hd2,hk⟩:=Zfo hf r hI1 (Zl hf1.le _ _ hd.2) hk
   exact ⟨E2,H2,s'::r',hf1.trans hf2,hI2,⟨V4 hf2.le _ _ hd1,hd2⟩,hk⟩
theorem Zca {B:Base}:∀ n,Zmz B (Zdm n)
 | 0=>fun _ _ hI _ _ hd _ hk=>⟨_,_,_,Frz.refl _ _,hI,hd,hk⟩
 | n+1=>by
  intro E H hI s v hd K hk
  unfold Zdm at hk
  split at hk
  ·rename_i id
   obtain ⟨e,he,hk⟩:=ZK H hk
   simp only [den] at hd
   obtain ⟨b,h1,hv⟩:=hd
   split at hk
   ·rename_i cells
    obtain ⟨b',cs,T,h1',h2,h3⟩:=hI.ent id _ he
    have:=h1.symm.trans h1';simp at this;subst this
    obtain ⟨E0,H0,cs0,hf0,hI0,hd0,hk⟩:=Zfo (Zca n) _ hI h3 hk
    obtain ⟨E1,H1,cs',hf1,hI1,hd1,hk,_⟩:=Yh _ hI0 hd0 hk
    have hf01:=hf0.trans hf1
    obtain ⟨e1,he1,hk⟩:=ZK H1 hk
    split at hk
    ·rename_i c1
     rw [ZT] at hk
     have hv1:E1.ids[id]?=some (.pointer (some ⟨b,0,none⟩)):=by rw [hf01.ids];exact h1
     have hh1:E1.w.heap[b]?=some (.cells cs T (0,0)):=by rw [hf01.w];exact h2
     have hle0:E1.le ⟨fun g=>E1.S g∨Ju (.box c1) (.pointer (some ⟨b,0,none⟩)) g,E1.w,E1.ids⟩:=⟨fun _ h=>.inl h,fun _ _=>rfl,fun _ _ h=>h⟩
     obtain ⟨hle2,hI2⟩:=hI1.Zb9 he1 rfl hv1 (.fbx cs') rfl ⟨b,cs,T,hv1,.inr rfl,hh1,Zl hle0 _ _ hd1⟩
     refine ⟨_,_,_,hf01.trans (Frz.one he1 rfl hv1 rfl hle2 (fun b hb=>hb)),hI2,?_,hk⟩
     simp only [den]
     refine ⟨⟨b,0,none⟩,cs.toList,hv,rfl,.inr rfl,fun j u hu=>?_,Zl hle2 _ _ hd1⟩
     exact Zbo (w:=E1.w) (b:=b) (cs:=cs) (T:=T) (fr:=(0,0)) hh1 0 j u (by simpa using hu)
    ·exact hk.elim
   ·rename_i cells
    obtain ⟨b',cs,T,h1',hS,h2,h3⟩:=hI.ent id _ he
    have:=h1.symm.trans h1';simp at this;subst this
    refine ⟨E,H,_,Frz.refl E H,hI,?_,hk⟩
    simp only [den]
    refine ⟨⟨b,0,none⟩,cs.toList,hv,rfl,hS,fun j u hu=>?_,h3⟩
    exact Zbo h2 0 j u (by simpa using hu)
   ·exact hk.elim
  ·rename_i id
   obtain ⟨en,he,hk⟩:=ZK H hk
   split at hk
   ·rename_i et e d i cells fp
    have hd0:=hd
    simp only [den] at hd0
    obtain ⟨v',xs,x1,vx,x2,f1,f2,h1,ho,hi0,hi1,ex,el,el2,hr1,hr2,hdc,efp,hnd⟩:=hI.ent id _ he
    have:=h1.symm.trans hd0.1;simp at this;subst this
    obtain ⟨E0,H0,cs0,hf0,hI0,hd0',hk⟩:=Zfo (Zca n) _ hI hdc hk
    obtain ⟨E1,H1,cs',hf1,hI1,hd1,hk,_⟩:=Yh _ hI0 hd0' hk
    have hf01:=hf0.trans hf1
    obtain ⟨x,rest,u1,u2,e12,hr,hrest,hk⟩:=ZW e.ty cs' _ _ hd1 hk
    split at hk
    ·have hv2:u2=[]:=by cases u2 with
      | nil=>rfl
      | cons=>simp [Zy] at hrest
     subst hv2
     rw [List.append_nil] at e12
     subst e12
     obtain ⟨e1,he1,hk⟩:=ZK H1 hk
     split at hk
     ·have hsame:=hf01.same id _ he1 rfl
      rw [he] at hsame
      have hsame:=Option.some.inj hsame
      rw [←hsame] at he1
      rw [ZT] at hk
      have hv1:E1.ids[id]?=some v':=by rw [hf01.ids];exact hd0.1
      have hrd:rep (fun b=>E1.S b∨Ju (.hole et e d i cells fp) v' b) E1.w (.sl e.ty) (d.set i.toNat x) [v']:=by
       have hw:=hf01.w
       rw [hw]
       rw [hw] at hr
       refine Zgd (by rw [List.length_set];exact ho) ?_ (fun g hg=>.inr (by show g∈fp;rw [efp];simp [hg]))
       rw [List.set_eq_take_append_cons_drop,if_pos (by omega),ex,List.append_assoc]
       refine J4 _ _ _ _ (J3 _ _ _ (fun d vs f hsub h=>V8 (S:=E.S) (fun b hb=>.inl (hf01.le.S b hb)) e d vs f (fun g hg=>.inr (by show g∈fp;rw [efp];simp [hsub g hg])) h) hr1) ⟨vx,x2,rfl,?_,?_⟩
       ·exact ZC (fun b hb=>.inl hb) (fun _ _=>rfl) e.ty x vx hr
       ·exact J3 _ _ _ (fun d vs f hsub h=>V8 (S:=E.S) (fun b hb=>.inl (hf01.le.S b hb)) e d vs f (fun g hg=>.inr (by show g∈fp;rw [efp];simp [hsub g hg])) h) hr2
      obtain ⟨hle2,hI2⟩:=hI1.Zb9 he1 rfl hv1 (.frz e.ty (d.set i.toNat x)) rfl ⟨v',hv1,hrd⟩
      exact ⟨_,_,_,hf01.trans (Frz.one he1 rfl hv1 rfl hle2 (fun b hb=>hb)),hI2,by simp only [den];exact hrd,hk⟩
     ·exact hk.elim
    ·exact hk.elim
   ·exact ⟨E,H,_,Frz.refl E H,hI,hd,hk⟩
  ·exact ⟨E,H,_,Frz.refl E H,hI,hd,hk⟩
theorem ZfY {B:Base} {E:Env} {H:List Entry} (hI:Inv B E H) {s:SV} {v:Value} (hd:den E s v) {K:SV→List Entry→Prop} (hk:Zjg s H K) :
  ∃ E' H' s',Frz E H E' H'∧Inv B E' H'∧den E' s' v∧K s' H':=Zca 3 _ _ hI _ _ hd _ hk
theorem ZeI {B:Base} (cs:List SV) {E:Env} {H:List Entry} (hI:Inv B E H) {vs:List Value} (hd:Zy E cs vs) {K:List SV→List Entry→Prop} (hk:ZgP cs H K) :
  ∃ E' H' cs',Frz E H E' H'∧Inv B E' H'∧Zy E' cs' vs∧K cs' H' :=
 Zfo (fun _ _ hI _ _ hd _ hk=>ZfY hI hd hk) cs hI hd hk
theorem Zjf {B:Base} {E:Env} {H:List Entry} (hI:Inv B E H) {s:SV} {v:Value} (hd:den E s v) (hw:s.whole=true) {K:List SV→List Entry→Prop} (hk:Zje s H K) :
  ∃ E' H' cs',Frz E H E' H'∧Inv B E' H'∧Zy E' cs' v.cells.toList∧K cs' H':=by
 unfold Zje at hk
 split at hk
 ·rename_i f caps
  simp only [den] at hd
  obtain ⟨vs,rfl,hd⟩:=hd
  obtain ⟨E1,H1,cs',hf1,hI1,hd1,hk⟩:=ZeI _ hI hd hk
  exact ⟨E1,H1,[.fn f cs'],hf1,hI1,⟨by simp only [den];exact ⟨vs,rfl,hd1⟩,trivial⟩,hk⟩
 ·rename_i id off
  have hc:=(Zaw hd rfl).1
  obtain ⟨E1,H1,s',hf1,hI1,hd1,hk⟩:=ZfY hI hd hk
  exact ⟨E1,H1,[s'],hf1,hI1,by rw [hc];exact ⟨hd1,trivial⟩,hk⟩
 ·obtain ⟨E0,H0,cs0,hf0,hI0,hd0,hk⟩:=ZeI _ hI (Xj hd hw) hk
  obtain ⟨E1,H1,cs',hf1,hI1,hd1,hk,_⟩:=Yh _ hI0 hd0 hk
  exact ⟨E1,H1,_,hf0.trans hf1,hI1,hd1,hk⟩
theorem Zc1 {E E':Env} (h:E.le E') {fp:List Nat} (hw:∀ g∈fp,E'.w.heap[g]?=E.w.heap[g]?):∀ (s:Sh) (d:s.den) (v:Value),Zil E.S E.w s d v fp→Zil E'.S E'.w s d v fp
 | .dat t,_,_,⟨h0,h1,h2,h3⟩=>⟨h0,h1,h2,ZC h.S h.w t _ _ h3⟩
 | .own e,_,_,⟨h1,h2⟩=>⟨h1,ZF h.S h.w e _ _ _ hw h2⟩
 | .back e,_,_,⟨h1,h2⟩=>⟨h1,ZF h.S h.w e _ _ _ hw h2⟩
 | .io e,_,_,⟨b,cs,T,f,h1,h2,h3,h4⟩=>⟨b,cs,T,f,h1,by rw [hw b (by rw [h4];simp)];exact h2,ZF h.S h.w e _ _ _ (fun g hg=>hw g (by rw [h4];simp [hg])) h3,h4⟩
theorem Zgl {E E':Env} (h:E.le E'):∀ (l:List Sh) (d:Shs l) (vs:List Value) (fp:List Nat),(∀ g∈fp,E'.w.heap[g]?=E.w.heap[g]?)→Vw E.S E.w l d vs fp→Vw E'.S E'.w l d vs fp
 | [],_,_,_,_,h=>h
 | s::r,_,_,_,hw,⟨v,vr,f,fr,e,ef,h1,h2⟩=>⟨v,vr,f,fr,e,ef,Zc1 h (fun g hg=>hw g (by rw [ef];simp [hg])) s _ _ h1,Zgl h r _ _ _ (fun g hg=>hw g (by rw [ef];simp [hg])) h2⟩
theorem ZbC {E E':Env} (h:E.le E'):∀ (l:List Sh) (d:Ios l) (vs:List Value) (fp:List Nat),(∀ g∈fp,E'.w.heap[g]?=E.w.heap[g]?)→Jd E.S E.w l d vs fp→Jd E'.S E'.w l d vs fp
 | [],_,_,_,_,h=>h
 | .io e::r,_,_,_,hw,⟨v,vr,f,fr,e',ef,h1,h2⟩=>⟨v,vr,f,fr,e',ef,Zc1 h (fun g hg=>hw g (by rw [ef];simp [hg])) (.io e) _ _ h1,ZbC h r _ _ _ (fun g hg=>hw g (by rw [ef];simp [hg])) h2⟩
 | .back e::r,_,_,_,hw,⟨v,vr,f,fr,e',ef,h1,h2⟩=>⟨v,vr,f,fr,e',ef,Zc1 h (fun g hg=>hw g (by rw [ef];simp [hg])) (.back e) _ _ h1,ZbC h r _ _ _ (fun g hg=>hw g (by rw [ef];simp [hg])) h2⟩
 | .dat _::r,_,_,_,hw,⟨v,vr,e,h2⟩=>⟨v,vr,e,ZbC h r _ _ _ hw h2⟩
 | .own _::r,_,_,_,hw,⟨v,vr,e,h2⟩=>⟨v,vr,e,ZbC h r _ _ _ hw h2⟩
theorem Zg5 {α:Type} {R R':α→List Value→List Nat→Prop} (h:∀ d vs f,R d vs f→R' d vs f) (l:List α) (xs:List Value) (fp:List Nat) (hr:Qc R l xs fp):Qc R' l xs fp:=Z5 l xs fp (fun d vs f _=>h d vs f) hr
theorem Qw {S S':Nat→Prop} {w:World}:∀ (e:Dp),e.closed=true→∀ (d:e.ty.den) (vs:List Value) (fp:List Nat),JK S w e d vs fp→JK S' w e d vs fp
 | .flat t,hc,_,_,_,⟨h1,h2⟩=>⟨h1,ZaP t hc _ _ h2⟩
 | .ol et e,hc,_,_,_,⟨v,xs,fps,e1,ho,hr,e2⟩=>⟨v,xs,fps,e1,ho,Zg5 (fun d vs f=>Qw e hc d vs f) _ _ _ hr,e2⟩
 | .mp k v,hc,_,_,_,⟨b,es,clk,e1,e2,hh,h⟩=>by
  simp only [Dp.closed,Bool.and_eq_true] at hc
  exact ⟨b,es,clk,e1,e2,hh,Qq (fun d vs=>ZaP k hc.1 d vs) (fun d vs=>ZaP v hc.2 d vs) _ _ h⟩
 | .pair a b,hc,_,_,_,⟨v1,v2,f1,f2,e1,e2,h1,h2⟩=>by
  simp only [Dp.closed,Bool.and_eq_true] at hc
  exact ⟨v1,v2,f1,f2,e1,e2,Qw a hc.1 _ _ _ h1,Qw b hc.2 _ _ _ h2⟩
theorem ZbP {S S':Nat→Prop} {w:World}:∀ (l:List Sh),ZcY l=true→∀ (d:Shs l) (vs:List Value) (fp:List Nat),Vw S w l d vs fp→Vw S' w l d vs fp
 | [],_,_,_,_,h=>h
 | s::r,hf,_,_,_,⟨v,vr,f,fr,e,ef,h1,h2⟩=>by
  simp only [ZcY,Bool.and_eq_true] at hf
  refine ⟨v,vr,f,fr,e,ef,?_,ZbP r hf.2 _ _ _ h2⟩
  cases s with
  | dat t=>obtain ⟨a,b,c,d⟩:=h1;exact ⟨a,b,c,ZaP t hf.1 _ _ d⟩
  | own e=>exact ⟨h1.1,Qw e hf.1 _ _ _ h1.2⟩
  | back e=>exact ⟨h1.1,Qw e hf.1 _ _ _ h1.2⟩
  | io e=>obtain ⟨b,cs,T,f',a1,a2,a3,a4⟩:=h1;exact ⟨b,cs,T,f',a1,a2,Qw e hf.1 _ _ _ a3,a4⟩
theorem Vr {S S':Nat→Prop} {w:World}:∀ (l:List Sh),Za6 l=true→∀ (d:Ios l) (vs:List Value) (fp:List Nat),Jd S w l d vs fp→Jd S' w l d vs fp
 | [],_,_,_,_,h=>h
 | .io e::r,hf,_,_,_,⟨v,vr,f,fr,ev,ef,⟨b,cs,T,f',a1,a2,a3,a4⟩,h2⟩=>by
  simp only [Za6,Bool.and_eq_true] at hf
  exact ⟨v,vr,f,fr,ev,ef,⟨b,cs,T,f',a1,a2,Qw e hf.1 _ _ _ a3,a4⟩,Vr r hf.2 _ _ _ h2⟩
 | .back e::r,hf,_,_,_,⟨v,vr,f,fr,ev,ef,⟨a1,a2⟩,h2⟩=>by
  simp only [Za6,Bool.and_eq_true] at hf
  exact ⟨v,vr,f,fr,ev,ef,⟨a1,Qw e hf.1 _ _ _ a2⟩,Vr r hf.2 _ _ _ h2⟩
 | .dat _::r,hf,_,_,_,⟨v,vr,e,h2⟩=>⟨v,vr,e,Vr r hf _ _ _ h2⟩
 | .own _::r,hf,_,_,_,⟨v,vr,e,h2⟩=>⟨v,vr,e,Vr r hf _ _ _ h2⟩
theorem Zkx {E:Env} {s:SV} {v:Value} (h:den E s v) (hw:s.whole=true):(s.isAgg=true→∃ cs,v=.agg cs)∧(s.isAgg=false→v.cells=#[v]):=by
 constructor
 ·intro ha
  cases s<;>simp [SV.isAgg] at ha
  simp only [den] at h
  obtain ⟨vs,e,_⟩:=h
  exact ⟨_,e⟩
 ·intro ha
  have h1:s.one=true:=by cases s<;>simp_all [SV.isAgg,SV.whole,SV.one]
  exact (Zaw h h1).1
def Handed (B:Base) (l:List Sh) (E:Env) (H:List Entry) (vs:List Value) (gs:List Nat) (K:Shs l→List Entry→Prop):Prop :=
 ∃ E1 H1 as fp,Frz E H E1 H1∧Inv B E1 H1∧Vw E1.S E1.w l as vs fp∧K as H1∧Loose B E1 H1 (fp++gs)∧ZaV E H H1 fp
theorem Handed.cons {B:Base} {s:Sh} {r:List Sh} {E E1:Env} {H H1:List Entry} {v:Value} {vs:List Value} {gs f:List Nat} {d:s.den} (hf:Frz E H E1 H1) (hs:Zil E1.S E1.w s d v f) (hT:ZaV E H H1 f) {K:Shs (s::r)→List Entry→Prop}
  (h:Handed B r E1 H1 vs (f++gs) (fun ds H2=>K (d,ds) H2)):Handed B (s::r) E H (v::vs) gs K:=by
 obtain ⟨E2,H2,ds,fp,hf2,hI2,hds,hk,hL,hT2⟩:=h
 refine ⟨E2,H2,(d,ds),f++fp,hf.trans hf2,hI2,⟨v,vs,f,fp,rfl,rfl,Zc1 hf2.le (fun g _=>by rw [hf2.w]) s _ _ hs,hds⟩,hk,hL.perm ?_,(hT.later hf2).append (ZaV.after hf hT2)⟩
 rw [←List.append_assoc]
 exact List.perm_append_comm.append_right gs
theorem Zfn {E:Env} {s:SV} {v:Value} (hd:den E s v) (hw:s.whole=true) {t:Ty} (hag:t.agg=s.isAgg):Zj5 t v:=by
 have hag':=Zkx hd hw
 exact ⟨fun h=>hag'.1 (by rw [←hag];exact h),fun h=>hag'.2 (by rw [←hag];exact h)⟩
theorem ZaH {B:Base}:∀ (l:List Sh) (ss:List SV) {E:Env} {H:List Entry} (_:Inv B E H) {vs:List Value} (_:Zy E ss vs) {gs:List Nat} (_:Loose B E H gs) {K:Shs l→List Entry→Prop} (_:ZcI l ss H K),Handed B l E H vs gs K
 | [],ss,E,H,hI,vs,hd,gs,hL,K,hk=>by
  simp only [ZcI] at hk
  split at hk
  ·match vs,hd with
   | [],_=>exact ⟨E,H,(),[],Frz.refl E H,hI,⟨rfl,rfl⟩,hk,hL,ZaV.nil _ _ _⟩
   | _::_,hd=>simp [Zy] at hd
  ·exact hk.elim
 | .dat t::r,ss,E,H,hI,vs,hd,gs,hL,K,hk=>by
  simp only [ZcI] at hk
  split at hk
  ·rename_i s ss
   match vs,hd with
   | [],hd=>simp [Zy] at hd
   | v::vs,hd =>
    simp only [Zy] at hd
    split at hk
    ·rename_i hc
     obtain ⟨hw,hag⟩:=hc
     obtain ⟨E1,H1,cs,hf1,hI1,hd1,hk⟩:=Zjf hI hd.1 hw hk
     obtain ⟨d,rest,v1,v2,e12,hr,hrest,hk⟩:=ZW t cs _ _ hd1 hk
     split at hk
     ·have hv2:v2=[]:=by cases v2 with
       | nil=>rfl
       | cons=>simp [Zy] at hrest
      subst hv2
      rw [List.append_nil] at e12
      obtain ⟨h1,h2⟩:=Zfn hd.1 hw hag
      exact Handed.cons (s:=.dat t) (d:=d) (f:=[]) hf1 ⟨rfl,h1,h2,by rw [e12];exact hr⟩ (ZaV.nil _ _ _) (ZaH r ss hI1 (Zl hf1.le _ _ hd.2) (hL.frz hf1) hk)
     ·exact hk.elim
    ·exact hk.elim
  ·exact hk.elim
 | .own e::r,ss,E,H,hI,vs,hd,gs,hL,K,hk=>by
  simp only [ZcI] at hk
  split at hk
  ·rename_i s ss
   match vs,hd with
   | [],hd=>simp [Zy] at hd
   | v::vs,hd =>
    simp only [Zy] at hd
    split at hk
    ·rename_i hc
     obtain ⟨hw,hag⟩:=hc
     obtain ⟨E1,H1,d,f,hf1,hI1,hr,hk,hL1,hT,_⟩:=Yy hI (Xj hd.1 hw) hL hk
     exact Handed.cons hf1 (s:=.own e) ⟨Zfn hd.1 hw hag,hr⟩ hT (ZaH r ss hI1 (Zl hf1.le _ _ hd.2) hL1 hk)
    ·exact hk.elim
  ·exact hk.elim
 | .back e::r,ss,E,H,hI,vs,hd,gs,hL,K,hk=>by
  simp only [ZcI] at hk
  split at hk
  ·rename_i s ss
   match vs,hd with
   | [],hd=>simp [Zy] at hd
   | v::vs,hd =>
    simp only [Zy] at hd
    split at hk
    ·rename_i hc
     obtain ⟨hw,hag⟩:=hc
     obtain ⟨E1,H1,d,f,hf1,hI1,hr,hk,hL1,hT,_⟩:=Yy hI (Xj hd.1 hw) hL hk
     exact Handed.cons hf1 (s:=.back e) ⟨Zfn hd.1 hw hag,hr⟩ hT (ZaH r ss hI1 (Zl hf1.le _ _ hd.2) hL1 hk)
    ·exact hk.elim
  ·exact hk.elim
 | .io e::r,ss,E,H,hI,vs,hd,gs,hL,K,hk=>by
  simp only [ZcI] at hk
  split at hk
  ·rename_i id ss
   match vs,hd with
   | [],hd=>simp [Zy] at hd
   | v::vs,hd =>
    simp only [Zy] at hd
    obtain ⟨en,he,hk⟩:=ZK H hk
    split at hk
    ·rename_i cells
     rw [ZT] at hk
     have hv:=hd.1
     simp only [den] at hv
     obtain ⟨b,hb0,hv⟩:=hv
     obtain ⟨b',cs0,T,e1,e2,e3⟩:=hI.ent id _ he
     have:=hb0.symm.trans e1;simp at this;subst this
     have t1:Frz E H E (H.set id .gone):=Frz.one he rfl hb0 rfl (Env.le.refl E) (fun b hb=>.inl hb)
     have t3:=hL.take hI he rfl hb0 (f:=[b]) (by simp) (fun g hg=>by
      simp at hg;subst hg;rfl)
     have t4:ZaV E H (H.set id .gone) [b]:=fun g hg=>by
      simp at hg;subst hg
      exact ⟨id,_,_,he,rfl,hb0,rfl,Zjh he⟩
     obtain ⟨E1,H1,d,f,hf1,hI1,hr,hk,hL1,hT,_⟩:=Yy (hI.drop id) e3 t3 hk
     refine Handed.cons (t1.trans hf1) (s:=.io e) (f:=b::f) ⟨b,cs0,T,f,hv,by rw [hf1.w];exact e2,hr,rfl⟩ ?_ (ZaH r ss hI1 (Zl hf1.le _ _ hd.2) (hL1.perm ?_) hk)
     ·exact ((t4.later hf1).append (ZaV.after t1 hT)).sub (fun g hg=>by simpa using hg)
     ·simp only [List.cons_append,List.nil_append]
      exact List.perm_middle
    ·exact hk.elim
  ·exact hk.elim
theorem Zdk {E:Env} {t:Ty} {v:Value} (hf:Zj5 t v) {cs:List SV} (hd:Zy E cs v.cells.toList) {K:SV→Prop} (hk:ZfU t cs K):∃ s,den E s v∧K s:=by
 unfold ZfU at hk
 split at hk
 ·rename_i ha
  obtain ⟨cs',rfl⟩:=hf.1 ha
  exact ⟨.agg _,by simp only [den];exact ⟨cs'.toList,by simp,hd⟩,hk⟩
 ·rename_i ha
  have hv:=hf.2 (by simpa using ha)
  split at hk
  ·rename_i c r
   rw [hv] at hd
   simp only [Zy] at hd
   exact ⟨c,hd.1,hk⟩
  ·exact hk.elim
theorem Zkl {E:Env} {t:Ty} {d:t.den} {v:Value} (h:Zmw E.S E.w t d v) {K:SV→Prop} (hk:ZfU t (VY t d) K):∃ s,den E s v∧K s:=by
 obtain ⟨h1,h2,h3⟩:=h
 have hd:=ZV t d _ h3
 unfold ZfU at hk
 split at hk
 ·rename_i ha
  obtain ⟨cs,rfl⟩:=h1 ha
  exact ⟨.agg _,by simp only [den];exact ⟨cs.toList,by simp,hd⟩,hk⟩
 ·rename_i ha
  have hv:=h2 (by simpa using ha)
  split at hk
  ·rename_i c r heq
   rw [heq,hv] at hd
   simp only [Zy] at hd
   exact ⟨c,hd.1,hk⟩
  ·exact hk.elim
theorem Zal {B:Base} {E:Env}:∀ (e:Dp) (cs:List SV) (x:e.ty.den) {H:List Entry} (_:Inv B E H) {vs vr:List Value} (_:Zy E cs (vs++vr)) {f gs:List Nat} (_:JK E.S E.w e x vs f) (_:Loose B E H (f++gs)) {K:List SV→List Entry→Prop} (_:VR e cs x H K),
  ∃ H' r,Inv B E H'∧Loose B E H' gs∧Zy E r vr∧K r H'
 | .flat t,cs,x,H,hI,vs,vr,hd,f,gs,⟨hf,hr⟩,hL,K,hk=>by
  simp only [VR,QL] at hk
  have hl:=Z4 t x vs hr
  have:=Xl _ _ hd t.size
  rw [←hl,List.drop_left] at this
  subst hf
  exact ⟨H,_,hI,hL,this,by rw [hl];exact hk⟩
 | .ol et e,cs,d,H,hI,vs,vr,hd,f,gs,hr,hL,K,hk=>by
  have hr0:=hr
  obtain ⟨v,xs,fps,ev,ho,hrs,ef⟩:=hr
  subst ev
  simp only [VR] at hk
  split at hk
  ·rename_i r
   simp only [List.cons_append,List.nil_append,Zy,den] at hd
   obtain ⟨rfl,hd⟩:=hd
   refine ⟨H,r,hI,?_,hd,hk⟩
   rcases ho.2 with ⟨_,hn⟩ | ⟨g,cap,cur,o,hv,_⟩
   ·have:d=[]:=List.eq_nil_of_length_eq_zero hn
    subst this
    have:fps=[]:=hrs.2
    subst this
    rw [ef] at hL
    simpa [ZH] using hL
   ·simp at hv
  ·rename_i id r
   simp only [List.cons_append,List.nil_append,Zy,den] at hd
   obtain ⟨⟨hid,_⟩,hd⟩:=hd
   have hlt:id<H.length:=by
    have:=(List.getElem?_eq_some_iff.1 hid).1
    rw [←hI.len];exact this
   obtain ⟨e1,h1,h2,h3,_⟩:=ZjC e hI hlt hid hr0 hL hk
   exact ⟨_,r,h1,h2,hd,h3⟩
  ·exact hk.elim
 | .mp kt vt,cs,d,H,hI,vs,vr,hd,f,gs,⟨b,es,clk,e1,e2,hh,hr⟩,hL,K,hk=>by
  subst e1
  simp only [VR] at hk
  split at hk
  ·rename_i id r
   simp only [List.cons_append,List.nil_append,Zy,den] at hd
   obtain ⟨⟨hid,_⟩,hd⟩:=hd
   rw [ZT] at hk
   have hlt:id<H.length:=by
    have:=(List.getElem?_eq_some_iff.1 hid).1
    rw [←hI.len];exact this
   obtain ⟨h1,h2⟩:=hL.put hI hlt hid (.mpe kt vt d) (fun _ g hg=>by
    have hg:ZH (.map (some b))=some g:=hg
    simp [ZH] at hg
    rw [e2];simp [hg]) ⟨b,es,clk,hid,hh,hr⟩
   exact ⟨_,r,h1,h2,hd,hk⟩
  ·exact hk.elim
 | .pair a b,cs,d,H,hI,vs,vr,hd,f,gs,⟨v1,v2,f1,f2,ev,ef,h1,h2⟩,hL,K,hk=>by
  simp only [VR,Y0] at hk
  subst ev;subst ef
  rw [List.append_assoc] at hd hL
  obtain ⟨H1,r,hI1,hL1,hd1,hk⟩:=Zal a cs d.1 hI hd h1 hL hk
  exact Zal b r d.2 hI1 hd1 h2 hL1 hk
theorem Zdq {B:Base}:∀ (l:List Sh) (ss:List SV) (ios:Ios l) {E:Env} {H:List Entry} (_:Inv B E H) {vs:List Value} (_:Zy E ss vs) {fio gs:List Nat} (_:Jd E.S E.w l ios vs fio) (_:Loose B E H (fio++gs)) {K:List Entry→Prop} (_:Zit l ss ios H K),
  ∃ E' H',E'.w=E.w∧E'.S=E.S∧Inv B E' H'∧E.le E'∧Loose B E' H' gs∧K H'
 | [],ss,ios,E,H,hI,vs,hd,fio,gs,hio,hL,K,hk=>by
  have:fio=[]:=hio
  subst this
  exact ⟨E,H,rfl,rfl,hI,Env.le.refl E,hL,hk⟩
 | .io e::r,ss,ios,E,H,hI,vs,hd,fio,gs,⟨v,vr,f,fr,ev,ef,⟨b,cs,T,f',a1,a2,a3,a4⟩,hio⟩,hL,K,hk=>by
  simp only [Zit] at hk
  subst ev;subst ef;subst a4;subst a1
  split at hk
  ·rename_i id ss
   simp only [Zy,den] at hd
   obtain ⟨⟨b',hid,hb'⟩,hd⟩:=hd
   simp at hb';subst hb'
   simp only [Y0] at hk
   have hL1:Loose B E H (f'++(b::(fr++gs))):=hL.perm (by
    simp only [List.cons_append,List.append_assoc]
    exact List.perm_middle.symm)
   obtain ⟨E1,H1,cells,hw1,hS1,hI1,hle1,hd1,hk,hL2,_⟩:=Y2 e ios.1 hI a3 hL1 hk
   rw [ZT] at hk
   have hid1:=hle1.ids _ _ hid
   have hlt:id<H1.length:=by
    have:=(List.getElem?_eq_some_iff.1 hid1).1
    rw [←hI1.len];exact this
   obtain ⟨hI2,hL3⟩:=Loose.put (f:=[b]) (gs:=fr++gs) hL2 hI1 hlt hid1 (.box cells) (fun _ g hg=>by
    have hg:some b=some g:=hg
    simp at hg;simp [hg]) ⟨b,cs,T,hid1,by rw [hw1];exact a2,hd1⟩
   obtain ⟨E2,H2,hw2,hS2,hI3,hle2,hL4,hk⟩:=Zdq r ss ios.2 hI2 (Zl hle1 _ _ hd) (by rw [hS1,hw1];exact hio) hL3 hk
   exact ⟨E2,H2,hw2.trans hw1,hS2.trans hS1,hI3,hle1.trans hle2,hL4,hk⟩
  ·exact hk.elim
 | .back e::r,ss,ios,E,H,hI,vs,hd,fio,gs,⟨v,vr,f,fr,ev,ef,⟨a1,a2⟩,hio⟩,hL,K,hk=>by
  simp only [Zit] at hk
  subst ev;subst ef
  split at hk
  ·rename_i s ss
   simp only [Zy] at hd
   split at hk
   ·rename_i hw
    simp only [Y0] at hk
    rw [List.append_assoc] at hL
    obtain ⟨H1,r',hI1,hL1,_,hk⟩:=Zal e s.cells ios.1 hI (vs:=v.cells.toList) (vr:=[]) (by rw [List.append_nil];exact Xj hd.1 hw) a2 hL hk
    exact Zdq r ss ios.2 hI1 hd.2 hio hL1 hk
   ·exact hk.elim
  ·exact hk.elim
 | .dat _::r,ss,ios,E,H,hI,vs,hd,fio,gs,⟨v,vr,ev,hio⟩,hL,K,hk=>by
  simp only [Zit] at hk
  subst ev
  split at hk
  ·simp only [Zy] at hd
   exact Zdq r _ ios hI hd.2 hio hL hk
  ·exact hk.elim
 | .own _::r,ss,ios,E,H,hI,vs,hd,fio,gs,⟨v,vr,ev,hio⟩,hL,K,hk=>by
  simp only [Zit] at hk
  subst ev
  split at hk
  ·simp only [Zy] at hd
   exact Zdq r _ ios hI hd.2 hio hL hk
  ·exact hk.elim
theorem ZaQ {B:Base}:∀ (l:List Sh) (rs:Shs l) (us:List Value) {E:Env} {H:List Entry} (_:Inv B E H) {fp gs:List Nat} (_:Vw E.S E.w l rs us fp) (_:Loose B E H (fp++gs)) {K:List SV→List Entry→Prop} (_:Zcp l rs H K),
  ∃ E' H' ss,E'.w=E.w∧E'.S=E.S∧Inv B E' H'∧E.le E'∧Zy E' ss us∧K ss H'
 | [],rs,us,E,H,hI,fp,gs,hd,hL,K,hk=>by
  obtain ⟨rfl,rfl⟩:=hd
  exact ⟨E,H,[],rfl,rfl,hI,Env.le.refl E,trivial,hk⟩
 | .dat t::r,rs,us,E,H,hI,fp,gs,⟨u,ur,f,fr,e,ef,⟨hf,h1⟩,h2⟩,hL,K,hk=>by
  subst e;subst hf;subst ef
  simp only [Zcp,Y0,Z6] at hk
  obtain ⟨s,hs,hk⟩:=Zkl h1 hk
  obtain ⟨E',H',ss,hw,hS,hI',hle,hds,hk⟩:=ZaQ r rs.2 ur hI h2 hL hk
  exact ⟨E',H',s::ss,hw,hS,hI',hle,⟨V4 hle s u hs,hds⟩,hk⟩
 | .own e::r,rs,us,E,H,hI,fp,gs,⟨u,ur,f,fr,ev,ef,⟨hform,h1⟩,h2⟩,hL,K,hk=>by
  subst ev;subst ef
  simp only [Zcp,Y0] at hk
  rw [List.append_assoc] at hL
  obtain ⟨E1,H1,cs,hw1,hS1,hI1,hle1,hd1,hk,hL1,_⟩:=Y2 e rs.1 hI h1 hL hk
  obtain ⟨s,hs,hk⟩:=Zdk hform hd1 hk
  obtain ⟨E',H',ss,hw,hS,hI',hle,hds,hk⟩:=ZaQ r rs.2 ur hI1 (by rw [hS1,hw1];exact h2) hL1 hk
  exact ⟨E',H',s::ss,hw.trans hw1,hS.trans hS1,hI',hle1.trans hle,⟨V4 hle s u hs,hds⟩,hk⟩
 | .back e::r,rs,us,E,H,hI,fp,gs,⟨u,ur,f,fr,ev,ef,⟨hform,h1⟩,h2⟩,hL,K,hk=>by
  subst ev;subst ef
  simp only [Zcp,Y0] at hk
  rw [List.append_assoc] at hL
  obtain ⟨E1,H1,cs,hw1,hS1,hI1,hle1,hd1,hk,hL1,_⟩:=Y2 e rs.1 hI h1 hL hk
  obtain ⟨s,hs,hk⟩:=Zdk hform hd1 hk
  obtain ⟨E',H',ss,hw,hS,hI',hle,hds,hk⟩:=ZaQ r rs.2 ur hI1 (by rw [hS1,hw1];exact h2) hL1 hk
  exact ⟨E',H',s::ss,hw.trans hw1,hS.trans hS1,hI',hle1.trans hle,⟨V4 hle s u hs,hds⟩,hk⟩
 | .io e::r,rs,us,E,H,hI,fp,gs,⟨u,ur,f,fr,ev,ef,⟨b,cs,T,f',a1,a2,a3,a4⟩,h2⟩,hL,K,hk=>by
  subst ev;subst ef;subst a4;subst a1
  simp only [Zcp,Y0] at hk
  have hL1:Loose B E H (f'++(b::(fr++gs))):=hL.perm (by
   simp only [List.cons_append,List.append_assoc]
   exact List.perm_middle.symm)
  obtain ⟨E1,H1,cells,hw1,hS1,hI1,hle1,hd1,hk,hL2,_⟩:=Y2 e rs.1 hI a3 hL1 hk
  simp only [ZeM,Qt,XW,Nat.zero_add] at hk
  have hid:(E1.ids++[Value.pointer (some ⟨b,0,none⟩)])[H1.length]?=some (.pointer (some ⟨b,0,none⟩)):=by rw [←hI1.len];simp
  have hle2:=ZaY E1 (.pointer (some ⟨b,0,none⟩))
  obtain ⟨hI2,hL3⟩:=Loose.push (f:=[b]) (gs:=fr++gs) hL2 hI1 (.pointer (some ⟨b,0,none⟩)) (.box cells) (fun _ g hg=>by
   have hg:some b=some g:=hg
   simp at hg;simp [hg]) ⟨b,cs,T,hid,by show E1.w.heap[b]?=_;rw [hw1];exact a2,Zl hle2 _ _ hd1⟩
  obtain ⟨E',H',ss,hw,hS,hI',hle,hds,hk⟩:=ZaQ r rs.2 ur hI2 (by
   show Vw E1.S E1.w r rs.2 ur fr
   rw [hS1,hw1];exact h2) hL3 hk
  refine ⟨E',H',.ptr H1.length 0::ss,hw.trans hw1,hS.trans hS1,hI',hle1.trans (hle2.trans hle),⟨V4 hle _ _ ?_,hds⟩,hk⟩
  simp only [den]
  exact ⟨b,hid,rfl⟩
theorem ZhK {E:Env} {ss:List SV} {us:List Value} (h:Zy E ss us) {v:Value} (hv:retv us v) {K:SV→Prop} (hk:Zgb ss K):∃ s,den E s v∧K s:=by
 unfold Zgb at hk
 unfold retv at hv
 split at hk
 ·rename_i s
  match us,h with
  | [u],h=>simp only [Zy] at h;subst hv;exact ⟨s,h.1,hk⟩
  | [],h=>simp [Zy] at h
  | _::_::_,h=>simp [Zy] at h
 ·rename_i hne
  have hl:=ZI _ _ h
  split at hv
  ·rename_i u
   match ss,hl with
   | [s],_=>exact absurd rfl (hne s)
  ·subst hv
   exact ⟨.tup ss,by simp only [den];exact ⟨us,rfl,h⟩,hk⟩
theorem Loose.behind {B:Base} {E:Env} {H:List Entry} {fp:List Nat} (hL:Loose B E H fp) (hI:Inv B E H) {w':World} {S0:Nat→Prop} (hk:Keeps ⟨E.w,S0,fun b=>b∈fp,[]⟩ w') {S2:Nat→Prop} (hS:∀ b,E.S b→S2 b)
  (hS2:∀ b,S2 b→b<w'.heap.size∧(b<E.w.heap.size→E.S b∨b∈fp)) {l:List Nat} (hl:l.Nodup) (hfree:∀ g∈l,¬S2 g∧g<w'.heap.size∧(E.w.heap.size≤g∨g∈fp)) :
  E.le ⟨S2,w',E.ids⟩∧Inv B ⟨S2,w',E.ids⟩ H∧Loose B ⟨S2,w',E.ids⟩ H l:=by
 have hle:E.le ⟨S2,w',E.ids⟩:=⟨hS,fun b hb=>hk.block b (hI.Slt b hb) (fun hp=>(hL.free b hp).1 hb),fun _ _ hh=>hh⟩
 refine ⟨hle,?_,hl,fun g hg=>?_,fun g hg j e v hj hlv hv hb=>?_⟩
 ·exact
   {keeps:=⟨hk.os.trans hI.keeps.os,hk.tape.trans hI.keeps.tape,hk.output.trans hI.keeps.output,Nat.le_trans hI.keeps.size hk.size,fun b hb hio =>
     (hk.block b (Nat.lt_of_lt_of_le hb hI.keeps.size) (fun hp=>by
      rcases (hL.free b hp).2.1 with h1 | h1
      ·omega
      ·exact hio h1)).trans (hI.keeps.block b hb hio)⟩
    Slt:=fun b hb=>(hS2 b hb).1
    Sold:=fun b hb hlt=>by
     rcases (hS2 b hb).2 (Nat.lt_of_lt_of_le hlt hI.keeps.size) with h | h
     ·exact hI.Sold b h hlt
     ·rcases (hL.free b h).2.1 with h1 | h1
      ·omega
      ·exact .inr h1
    len:=hI.len
    pin:=hI.pin
    ent:=fun j e hj=>Vo hle j e (fun hlv v g hv hb=>hk.block g (hI.free j e v g hj hlv hv hb).2.2 (fun hp=>hL.apart g hp j e v hj hlv hv hb)) (hI.ent j e hj)
    free:=fun j e v g hj hlv hv hb=>by
     obtain ⟨a,b,c⟩:=hI.free j e v g hj hlv hv hb
     refine ⟨fun hs=>?_,b,Nat.lt_of_lt_of_le c hk.size⟩
     rcases (hS2 g hs).2 c with h | h
     ·exact a h
     ·exact hL.apart g h j e v hj hlv hv hb
    sep:=hI.sep}
 ·obtain ⟨a,b,c⟩:=hfree g hg
  refine ⟨a,?_,b⟩
  rcases c with c | c
  ·exact .inl (Nat.le_trans hI.keeps.size c)
  ·exact (hL.free g c).2.1
 ·obtain ⟨_,_,c⟩:=hfree g hg
  rcases c with c | c
  ·have:=(hI.free j e v g hj hlv hv hb).2.2;omega
  ·exact hL.apart g c j e v hj hlv hv hb
def Vn:List Sh→Bool
 | []=>true
 | .dat _::r=>Vn r
 | _::_=>false
theorem Zcq {S:Nat→Prop} {w:World}:∀ (l:List Sh) (d:Shs l) (vs:List Value) (fp:List Nat),Vn l=true→Vw S w l d vs fp→fp=[]
 | [],_,_,_,_,h=>h.2
 | .dat _::r,_,_,_,hd,⟨v,vr,f,fr,e,ef,⟨h1,_⟩,h2⟩=>by rw [ef,h1,Zcq r _ _ _ hd h2];rfl
 | .own _::_,_,_,_,h,_=>by simp [Vn] at h
 | .io _::_,_,_,_,h,_=>by simp [Vn] at h
 | .back _::_,_,_,_,h,_=>by simp [Vn] at h
def Zac:List Sh→Bool
 | []=>true
 | .dat _::r=>Zac r
 | .io (.flat _)::r=>Zac r
 | _::_=>false
def ZbB:List Sh→List Bool
 | []=>[]
 | .io _::r=>true::ZbB r
 | _::r=>false::ZbB r
def pick {α:Type}:List Bool→List α→List α
 | true::m,x::r=>x::pick m r
 | false::m,_::r=>pick m r
 | _,_=>[]
theorem Zfy {α β:Type} (f:α→β):∀ (m:List Bool) (l:List α),pick m (l.map f)=(pick m l).map f
 | [],l=>by cases l<;>rfl
 | true::m,[]=>rfl
 | false::m,[]=>rfl
 | true::m,x::r=>by simp only [List.map_cons,pick,Zfy f m r]
 | false::m,x::r=>by simp only [List.map_cons,pick,Zfy f m r]
theorem Zbc {S:Nat→Prop} {w:World}:∀ (l:List Sh) (d:Shs l) (vs:List Value) (fp:List Nat),Zac l=true→Vw S w l d vs fp→∀ g∈fp,∃ v∈pick (ZbB l) vs,ZH v=some g
 | [],_,_,_,_,h,g,hg=>by rw [h.2] at hg;cases hg
 | .dat _::r,_,_,_,hd,⟨v,vr,f,fr,e,ef,⟨h1,_⟩,h2⟩,g,hg=>by
  rw [ef,h1,List.nil_append] at hg
  rw [e]
  exact Zbc r _ _ _ hd h2 g hg
 | .io (.flat t)::r,_,_,_,hd,⟨v,vr,f,fr,e,ef,⟨b,cs,T,f',hv,_,hr,hf⟩,h2⟩,g,hg=>by
  have hf':f'=[]:=hr.1
  rw [ef,hf,hf'] at hg
  rw [e]
  rcases List.mem_append.1 hg with hg | hg
  ·rw [List.mem_singleton] at hg
   exact ⟨v,by simp [ZbB,pick],by rw [hv,hg];rfl⟩
  ·obtain ⟨u,hu,hb⟩:=Zbc r _ _ _ hd h2 g hg
   exact ⟨u,by simp only [ZbB,pick];exact List.mem_cons_of_mem _ hu,hb⟩
 | .io (.ol _ _)::_,_,_,_,h,_,_,_=>by simp [Zac] at h
 | .io (.pair _ _)::_,_,_,_,h,_,_,_=>by simp [Zac] at h
 | .io (.mp _ _)::_,_,_,_,h,_,_,_=>by simp [Zac] at h
 | .own _::_,_,_,_,h,_,_,_=>by simp [Zac] at h
 | .back _::_,_,_,_,h,_,_,_=>by simp [Zac] at h
theorem Zki {P:Program} {B:Base} {E:Env} {H:List Entry} (hI:Inv B E H) {f:FuncId} {C:Ctr} (hC:Zd P f C) {ss:List SV} {vs:List Value} (hd:Zy E ss vs)
  {K:SV→List Entry→Prop} (hk:ZlH C ss H K) :
  Calls P f vs.toArray E.w fun e w'=>∃ v E' H' s,e=.returned v∧E'.w=w'∧Inv B E' H'∧E.le E'∧den E' s v∧K s H'∧(Vn C.args=true→Grow E.w w')∧(Zac C.args=true→∀ b,b<E.w.heap.size→(∀ v∈pick (ZbB C.args) vs,ZH v≠some b)→w'.heap[b]?=E.w.heap[b]?):=by
 unfold ZlH at hk
 obtain ⟨E1,H1,as,fp,hf1,hI1,has,hk,hL1,hT⟩:=ZaH C.args ss hI hd (Loose.none B E H) hk
 rw [List.append_nil] at hL1
 have hcall:=hC.2 E1.w E1.S vs as fp _ hI1.Slt has hL1.nodup (fun g hg=>⟨(hL1.free g hg).1,(hL1.free g hg).2.2⟩) hk
 rw [hf1.w] at hcall
 refine hcall.mono ?_
 rintro e w' ⟨v,us,rs,ios,S',fr,fio,he,hv,hk,hkeeps,hS1,hS2,hrets,hios,hnd,hfree⟩
 have hgrow:Vn C.args=true→Grow E.w w':=by
  intro hda b hb
  refine hkeeps.block b hb ?_
  rw [Zcq _ _ _ _ hda has];simp
 have hstay:Zac C.args=true→∀ b,b<E.w.heap.size→(∀ v∈pick (ZbB C.args) vs,ZH v≠some b)→w'.heap[b]?=E.w.heap[b]?:=by
  intro hfl b hb hne
  refine hkeeps.block b hb (fun hm=>?_)
  obtain ⟨u,hu,hbu⟩:=Zbc _ _ _ _ hfl has b hm
  exact hne u hu hbu
 have fin:∀ (E0:Env) (H0:List Entry) (S2:Nat→Prop),E0.w=E.w→Inv B E0 H0→E.le E0→Loose B E0 H0 fp→(∀ b,E0.S b→S2 b)→(∀ b,S2 b→S' b)→(∀ b,S2 b→b<w'.heap.size∧(b<E.w.heap.size→E0.S b∨b∈fp))→
   Vw S2 w' C.rets rs us fr→Jd S2 w' C.args ios vs fio→
   (Zit C.args ss ios H0 fun H2=>Zcp C.rets rs H2 fun ss' H3=>Zgb ss' fun s=>K s H3)→
   ∃ v E' H' s,e=.returned v∧E'.w=w'∧Inv B E' H'∧E.le E'∧den E' s v∧K s H'∧(Vn C.args=true→Grow E.w w')∧(Zac C.args=true→∀ b,b<E.w.heap.size→(∀ v∈pick (ZbB C.args) vs,ZH v≠some b)→w'.heap[b]?=E.w.heap[b]?):=by
  intro E0 H0 S2 hw0 hI0 hle0 hL0 hSa hSb hSc hr2 hi2 hk
  obtain ⟨hleb,hI2,hL2⟩:=hL0.behind hI0 (w':=w') (S0:=E1.S) (by rw [hw0];exact hkeeps) (S2:=S2) hSa (by rw [hw0];exact hSc) hnd (fun g hg=>by
   obtain ⟨a,b,c⟩:=hfree g hg
   exact ⟨fun hs=>a (hSb g hs),b,by rw [hw0];exact c⟩)
  obtain ⟨E2,H2,hw2,hS2',hI3,hle2,hL3,hk⟩:=Zdq C.args ss ios hI2 (Zl (hle0.trans hleb) _ _ hd) hi2 hL2 hk
  obtain ⟨E3,H3,ss',hw3,hS3,hI4,hle3,hds,hk⟩:=ZaQ C.rets rs us hI3 (gs:=[]) (by rw [hS2',hw2];exact hr2) (by rw [List.append_nil];exact hL3) hk
  obtain ⟨s,hs,hk⟩:=ZhK hds hv hk
  exact ⟨v,E3,H3,s,he,hw3.trans hw2,hI4,((hle0.trans hleb).trans hle2).trans hle3,hs,hk,hgrow,hstay⟩
 split at hk
 ·rename_i hflat
  simp only [Bool.and_eq_true] at hflat
  obtain ⟨hIr,hLr⟩:=Zg6 hI hf1 hL1 hT
  rw [ZfX] at hk
  exact fin E (ZcR H H1) E.S rfl hIr (Env.le.refl E) hLr (fun b h=>h) (fun b h=>hS1 b (hf1.le.S b h)) (fun b hb=>⟨Nat.lt_of_lt_of_le (hI.Slt b hb) hkeeps.size,fun _=>.inl hb⟩)
   (ZbP _ hflat.1 _ _ _ hrets) (Vr _ hflat.2 _ _ _ hios) hk
 ·exact fin E1 H1 S' hf1.w hI1 hf1.le hL1 hS1 (fun b h=>h) (fun b hb=>by
   obtain ⟨a,c⟩:=hS2 b hb
   exact ⟨a,c⟩) hrets hios hk
end Go.Sx
