/-
  Contracts of functions over data; a call by its contract.
-/
import Derived.Test.YtgjjlgodlhhdoaaGreatDoorSxRun
namespace Go.Sx
set_option linter.unusedVariables false
set_option linter.unusedSimpArgs false
inductive Sh
 | dat (t:Ty)
 | own (e:Dp)
 | io (e:Dp)
 | back (e:Dp)
@[reducible] def Sh.den:Sh->Type
 | .dat t=>t.den
 | .own e=>e.ty.den
 | .io e=>e.ty.den
 | .back e=>e.ty.den
@[reducible] def Shs:List Sh->Type
 | []=>Unit
 | s::r=>s.den×Shs r
@[reducible] def Ios:List Sh->Type
 | []=>Unit
 | .io e::r=>e.ty.den×Ios r
 | .back e::r=>e.ty.den×Ios r
 | .dat _::r=>Ios r
 | .own _::r=>Ios r
structure Ctr where
 args:List Sh
 rets:List Sh
 tr:Shs args->(Shs rets->Ios args->Prop)->Prop
def Zs8 (t:Ty) (v:Value):Prop:=(t.agg=true->∃ cs,v=.agg cs)/\(t.agg=false->v.cells=#[v])
def Zwu (S:Nat->Prop) (w:World) (t:Ty) (d:t.den) (v:Value):Prop :=
 (t.agg=true->∃ cs,v=.agg cs)/\(t.agg=false->v.cells=#[v])/\rep S w t d v.cells.toList
def Zq1 (S:Nat->Prop) (w:World):(s:Sh)->s.den->Value->List Nat->Prop
 | .dat t,d,v,fp=>fp=[]/\Zwu S w t d v
 | .own e,d,v,fp=>Zs8 e.ty v/\Zfj S w e d v.cells.toList fp
 | .back e,d,v,fp=>Zs8 e.ty v/\Zfj S w e d v.cells.toList fp
 | .io e,d,v,fp=>∃ b cs T f,v=.pointer (some ⟨b,0,none⟩)/\w.heap[b]?=some (.cells cs T (0,0))/\Zfj S w e d cs.toList f/\fp=b::f
def Zcw (S:Nat->Prop) (w:World):(l:List Sh)->Shs l->List Value->List Nat->Prop
 | [],_,vs,fp=>vs=[]/\fp=[]
 | s::r,d,vs,fp=>∃ v vr f fr,vs=v::vr/\fp=f++fr/\Zq1 S w s d.1 v f/\Zcw S w r d.2 vr fr
def Zen (S:Nat->Prop) (w:World):(l:List Sh)->Ios l->List Value->List Nat->Prop
 | [],_,_,fp=>fp=[]
 | .io e::r,d,vs,fp=>∃ v vr f fr,vs=v::vr/\fp=f++fr/\Zq1 S w (.io e) d.1 v f/\Zen S w r d.2 vr fr
 | .back e::r,d,vs,fp=>∃ v vr f fr,vs=v::vr/\fp=f++fr/\Zq1 S w (.back e) d.1 v f/\Zen S w r d.2 vr fr
 | .dat _::r,d,vs,fp=>∃ v vr,vs=v::vr/\Zen S w r d vr fp
 | .own _::r,d,vs,fp=>∃ v vr,vs=v::vr/\Zen S w r d vr fp
def retv (us:List Value) (v:Value):Prop :=
 match us with
 | [u]=>v=u
 | us=>v=.tuple us.toArray
def Zmc (P:Program) (f:FuncId):Prop:=∃ fn,P.funcs[f]?=some fn/\(fn.name == "runtime.NumGoroutine")=false/\fn.body.isNone=false
def Za (P:Program) (f:FuncId) (C:Ctr):Prop:=Zmc P f/\
 ∀ (w:World) (S:Nat->Prop) (vs:List Value) (as:Shs C.args) (fp:List Nat) (K:Shs C.rets->Ios C.args->Prop),
  (∀ b,S b->b<w.heap.size)->Zcw S w C.args as vs fp->fp.Nodup->(∀ g∈fp,¬S g/\g<w.heap.size)->C.tr as K->
  Calls P f vs.toArray w λe w'=>∃ v us rs ios S' fr fio,e=.returned v/\retv us v/\K rs ios/\Keeps ⟨w,S,λb=>b∈fp,[]⟩ w'/\(∀ b,S b->S' b)/\
   (∀ b,S' b->b<w'.heap.size/\(b<w.heap.size->S b\/b∈fp))/\Zcw S' w' C.rets rs us fr/\Zen S' w' C.args ios vs fio/\
   (fio++fr).Nodup/\∀ g∈fio++fr,¬S' g/\g<w'.heap.size/\(w.heap.size<=g\/g∈fp)
def SV.isAgg:SV->Bool
 | .agg _=>true
 | _=>false
def Zwq (f:SV->List Entry->(SV->List Entry->Prop)->Prop):List SV->List Entry->(List SV->List Entry->Prop)->Prop
 | [],H,K=>K [] H
 | s::r,H,K=>f s H λs' H1=>Zwq f r H1 λr' H2=>K (s'::r') H2
def Zkq:Nat->SV->List Entry->(SV->List Entry->Prop)->Prop
 | 0,s,H,K=>K s H
 | n+1,s,H,K=>match s with
  | .ptr id 0=>ZeE H id λe=>match e with
   | .box cells=>Zwq (Zkq n) cells H λcs0 H0=>Qu cs0 H0 λcs' H1=>ZeE H1 id λe1=>match e1 with
    | .box _=>Zfk H1 id (.fbx cs') λH2=>K (.fptr cs') H2
    | _=>False
   | .fbx cells=>K (.fptr cells) H
   | _=>False
  | .own id=>ZeE H id λe=>match e with
   | .hole _ e d i cells _=>Zwq (Zkq n) cells H λcs0 H0=>Qu cs0 H0 λcs' H1=>Xi e.ty cs' λx rest=>match rest with
    | []=>ZeE H1 id λe1=>match e1 with
     | .hole _ _ _ _ _ _=>Zfk H1 id (.frz e.ty (d.set i.toNat x)) λH2=>K (.sl e.ty (d.set i.toNat x)) H2
     | _=>False
    | _=>False
   | _=>K (.own id) H
  | s=>K s H
def Zr1 (s:SV) (H:List Entry) (K:SV->List Entry->Prop):Prop:=Zkq 3 s H K
def ZoC (cs:List SV) (H:List Entry) (K:List SV->List Entry->Prop):Prop:=Zwq Zr1 cs H K
def ZrZ (s:SV) (H:List Entry) (K:List SV->List Entry->Prop):Prop :=
 match s with
 | .fn f caps=>ZoC caps H λcaps' H1=>K [.fn f caps'] H1
 | .ptr id off=>Zr1 (.ptr id off) H λs' H1=>K [s'] H1
 | s=>ZoC s.cells H λcs0 H0=>Qu cs0 H0 K
def Znk (t:Ty) (cs:List SV) (K:SV->Prop):Prop :=
 if t.agg=true then K (.agg cs) else match cs with
  | c::_=>K c
  | []=>False
def Zi9:(l:List Sh)->List SV->List Entry->(Shs l->List Entry->Prop)->Prop
 | [],ss,H,K=>match ss with
  | []=>K () H
  | _=>False
 | .dat t::r,ss,H,K=>match ss with
  | s::ss=>if s.whole=true/\t.agg=s.isAgg then ZrZ s H λcs H1=>Xi t cs λd rest=>match rest with
    | []=>Zi9 r ss H1 λds H2=>K (d,ds) H2
    | _=>False
   else False
  | _=>False
 | .own e::r,ss,H,K=>match ss with
  | s::ss=>if s.whole=true/\e.ty.agg=s.isAgg then closeAll e s.cells H λd H1=>Zi9 r ss H1 λds H2=>K (d,ds) H2 else False
  | _=>False
 | .back e::r,ss,H,K=>match ss with
  | s::ss=>if s.whole=true/\e.ty.agg=s.isAgg then closeAll e s.cells H λd H1=>Zi9 r ss H1 λds H2=>K (d,ds) H2 else False
  | _=>False
 | .io e::r,ss,H,K=>match ss with
  | .ptr id 0::ss=>ZeE H id λen=>match en with
   | .box cells=>Zfk H id .gone λH0=>closeAll e cells H0 λd H1=>Zi9 r ss H1 λds H2=>K (d,ds) H2
   | _=>False
  | _=>False
def Dp.closed:Dp->Bool
 | .flat t=>t.flat
 | .ol _ e=>e.closed
 | .pair a b=>a.closed&&b.closed
 | .mp k v=>k.flat&&v.flat
def Sh.flat:Sh->Bool
 | .dat t=>t.flat
 | .own e=>e.closed
 | .io e=>e.closed
 | .back e=>e.closed
def ZjQ:List Sh->Bool
 | []=>true
 | s::r=>s.flat&&ZjQ r
def Zhd:List Sh->Bool
 | []=>true
 | .io e::r=>e.closed&&Zhd r
 | .back e::r=>e.closed&&Zhd r
 | _::r=>Zhd r
def Zdv:(e:Dp)->List SV->e.ty.den->List Entry->(List SV->List Entry->Prop)->Prop
 | .flat t,cs,_,H,K=>Zgj cs t.size λr=>K r H
 | .ol et e,cs,d,H,K=>match cs with
  | .nsl::r=>K r H
  | .own id::r=>ZvV et e id d H λH'=>K r H'
  | _=>False
 | .mp k v,cs,d,H,K=>match cs with
  | .mown id::r=>Zfk H id (.mpe k v d) λH'=>K r H'
  | _=>False
 | .pair a b,cs,d,H,K=>splitK d λx y=>Zdv a cs x H λr H1=>Zdv b r y H1 K
def Zrb:(l:List Sh)->List SV->Ios l->List Entry->(List Entry->Prop)->Prop
 | [],_,_,H,K=>K H
 | .io e::r,ss,d,H,K=>match ss with
  | .ptr id 0::ss=>splitK d λx d'=>Qg e x H λcells H1=>Zfk H1 id (.box cells) λH2=>Zrb r ss d' H2 K
  | _=>False
 | .back e::r,ss,d,H,K=>match ss with
  | s::ss=>if s.whole=true then splitK d λx d'=>Zdv e s.cells x H λ_ H1=>Zrb r ss d' H1 K else False
  | _=>False
 | .dat _::r,ss,d,H,K=>match ss with
  | _::ss=>Zrb r ss d H K
  | _=>False
 | .own _::r,ss,d,H,K=>match ss with
  | _::ss=>Zrb r ss d H K
  | _=>False
def ZiK:(l:List Sh)->Shs l->List Entry->(List SV->List Entry->Prop)->Prop
 | [],_,H,K=>K [] H
 | .dat t::r,d,H,K=>splitK d λx d'=>Qq t x λcs=>Znk t cs λs=>ZiK r d' H λss H'=>K (s::ss) H'
 | .own e::r,d,H,K=>splitK d λx d'=>Qg e x H λcs H1=>Znk e.ty cs λs=>ZiK r d' H1 λss H'=>K (s::ss) H'
 | .back e::r,d,H,K=>splitK d λx d'=>Qg e x H λcs H1=>Znk e.ty cs λs=>ZiK r d' H1 λss H'=>K (s::ss) H'
 | .io e::r,d,H,K=>splitK d λx d'=>Qg e x H λcs H1=>ZlU cs H1 λs H2=>ZiK r d' H2 λss H'=>K (s::ss) H'
def ZnJ (ss:List SV) (K:SV->Prop):Prop :=
 match ss with
 | [s]=>K s
 | ss=>K (.tup ss)
def ZpA:List Entry->(List Entry->Prop)->Prop
 | [],K=>K []
 | e::r,K=>ZpA r λr'=>K (e::r')
theorem Znn:∀ (l:List Entry) (K:List Entry->Prop),ZpA l K=K l
 | [],_=>rfl
 | e::r,K=>by unfold ZpA;exact Znn r _
def Zvs (C:Ctr) (ss:List SV) (H:List Entry) (K:SV->List Entry->Prop):Prop :=
 Zi9 C.args ss H λas H1=>C.tr as λrs ios =>
  if (ZjQ C.rets&&Zhd C.args)=true then ZpA (ZjH H H1) λH0=>Zrb C.args ss ios H0 λH2=>ZiK C.rets rs H2 λss' H3=>ZnJ ss' λs=>K s H3
  else Zrb C.args ss ios H1 λH2=>ZiK C.rets rs H2 λss' H3=>ZnJ ss' λs=>K s H3
def Zwz (B:Base) (f:SV->List Entry->(SV->List Entry->Prop)->Prop):Prop :=
 ∀ (E:Env) (H:List Entry),Inv B E H->∀ (s:SV) (v:Value),den E s v->∀ (K:SV->List Entry->Prop),f s H K->∃ E' H' s',Frz E H E' H'/\Inv B E' H'/\den E' s' v/\K s' H'
theorem Zmu {B:Base} {f:SV->List Entry->(SV->List Entry->Prop)->Prop} (hf:Zwz B f):∀ (cs:List SV) {E:Env} {H:List Entry} (_:Inv B E H) {vs:List Value} (_:ZT E cs vs) {K:List SV->List Entry->Prop} (_:Zwq f cs H K),
  ∃ E' H' cs',Frz E H E' H'/\Inv B E' H'/\ZT E' cs' vs/\K cs' H'
 | [],E,H,hI,vs,hd,K,hk=>⟨E,H,[],Frz.refl E H,hI,hd,hk⟩
 | s::r,E,H,hI,vs,hd,K,hk=>by
  match vs,hd with
  | [],hd=>simp[ZT] at hd
  | v::vs,hd =>
   simp only[ZT] at hd;simp only[Zwq] at hk;obtain ⟨E1,H1,s',hf1,hI1,hd1,hk⟩:=hf _ _ hI _ _ hd.1 _ hk;obtain ⟨E2,H2,r',hf2,hI2,hd2,hk⟩:=Zmu hf r hI1 (ZE hf1.le _ _ hd.2) hk;exact ⟨E2,H2,s'::r',hf1.trans hf2,hI2,⟨ZdX hf2.le _ _ hd1,hd2⟩,hk⟩
theorem Zit {B:Base}:∀ n,Zwz B (Zkq n)
 | 0=>λ_ _ hI _ _ hd _ hk=>⟨_,_,_,Frz.refl _ _,hI,hd,hk⟩
 | n+1=>by
  intro E H hI s v hd K hk;unfold Zkq at hk;split at hk
  ·rename_i id
   obtain ⟨e,he,hk⟩:=Yy H hk;simp only[den] at hd;obtain ⟨b,h1,hv⟩:=hd;split at hk
   ·rename_i cells
    obtain ⟨b',cs,T,h1',h2,h3⟩:=hI.ent id _ he;have:=h1.symm.trans h1';simp at this;subst this;obtain ⟨E0,H0,cs0,hf0,hI0,hd0,hk⟩:=Zmu (Zit n) _ hI h3 hk;obtain ⟨E1,H1,cs',hf1,hI1,hd1,hk,_⟩:=XI _ hI0 hd0 hk;have hf01:=hf0.trans hf1;obtain ⟨e1,he1,hk⟩:=Yy H1 hk;split at hk
    ·rename_i c1
     rw[YU] at hk;have hv1:E1.ids[id]?=some (.pointer (some ⟨b,0,none⟩)):=by rw[hf01.ids];exact h1
     have hh1:E1.w.heap[b]?=some (.cells cs T (0,0)):=by rw[hf01.w];exact h2
     have hle0:E1.le ⟨λg=>E1.S g\/ZeY (.box c1) (.pointer (some ⟨b,0,none⟩)) g,E1.w,E1.ids⟩:=⟨λ_ h=>.inl h,λ_ _=>rfl,λ_ _ h=>h⟩;obtain ⟨hle2,hI2⟩:=hI1.Zis he1 rfl hv1 (.fbx cs') rfl ⟨b,cs,T,hv1,.inr rfl,hh1,ZE hle0 _ _ hd1⟩;refine ⟨_,_,_,hf01.trans (Frz.one he1 rfl hv1 rfl hle2 (λb hb=>hb)),hI2,?_,hk⟩;simp only[den];refine ⟨⟨b,0,none⟩,cs.toList,hv,rfl,.inr rfl,λj u hu=>?_,ZE hle2 _ _ hd1⟩;exact ZhB (w:=E1.w) (b:=b) (cs:=cs) (T:=T) (fr:=(0,0)) hh1 0 j u (by simpa using hu)
    ·exact hk.elim
   ·rename_i cells
    obtain ⟨b',cs,T,h1',hS,h2,h3⟩:=hI.ent id _ he;have:=h1.symm.trans h1';simp at this;subst this;refine ⟨E,H,_,Frz.refl E H,hI,?_,hk⟩;simp only[den];refine ⟨⟨b,0,none⟩,cs.toList,hv,rfl,hS,λj u hu=>?_,h3⟩;exact ZhB h2 0 j u (by simpa using hu)
   ·exact hk.elim
  ·rename_i id
   obtain ⟨en,he,hk⟩:=Yy H hk;split at hk
   ·rename_i et e d i cells fp
    have hd0:=hd;simp only[den] at hd0;obtain ⟨v',xs,x1,vx,x2,f1,f2,h1,ho,hi0,hi1,ex,el,el2,hr1,hr2,hdc,efp,hnd⟩:=hI.ent id _ he;have:=h1.symm.trans hd0.1;simp at this;subst this;obtain ⟨E0,H0,cs0,hf0,hI0,hd0',hk⟩:=Zmu (Zit n) _ hI hdc hk;obtain ⟨E1,H1,cs',hf1,hI1,hd1,hk,_⟩:=XI _ hI0 hd0' hk;have hf01:=hf0.trans hf1;obtain ⟨x,rest,u1,u2,e12,hr,hrest,hk⟩:=Y4 e.ty cs' _ _ hd1 hk;split at hk
    ·have hv2:u2=[]:=by cases u2 with
      | nil=>rfl
      | cons=>simp[ZT] at hrest
     subst hv2;rw[List.append_nil] at e12;subst e12;obtain ⟨e1,he1,hk⟩:=Yy H1 hk;split at hk
     ·have hsame:=hf01.same id _ he1 rfl
      rw[he] at hsame;have hsame:=Option.some.inj hsame;rw[<-hsame] at he1;rw[YU] at hk;have hv1:E1.ids[id]?=some v':=by rw[hf01.ids];exact hd0.1
      have hrd:rep (λb=>E1.S b\/ZeY (.hole et e d i cells fp) v' b) E1.w (.sl e.ty) (d.set i.toNat x) [v']:=by
       have hw:=hf01.w;rw[hw];rw[hw] at hr;refine ZnL (by rw[List.length_set];exact ho) ?_ (λg hg=>.inr (by show g∈fp;rw[efp];simp[hg]));rw[List.set_eq_take_append_cons_drop,if_pos (by omega),ex,List.append_assoc];refine ZfH _ _ _ _ (ZfG _ _ _ (λd vs f hsub h=>Zed (S:=E.S) (λb hb=>.inl (hf01.le.S b hb)) e d vs f (λg hg=>.inr (by show g∈fp;rw[efp];simp[hsub g hg])) h) hr1) ⟨vx,x2,rfl,?_,?_⟩
       ·exact Z7 (λb hb=>.inl hb) (λ_ _=>rfl) e.ty x vx hr
       ·exact ZfG _ _ _ (λd vs f hsub h=>Zed (S:=E.S) (λb hb=>.inl (hf01.le.S b hb)) e d vs f (λg hg=>.inr (by show g∈fp;rw[efp];simp[hsub g hg])) h) hr2
      obtain ⟨hle2,hI2⟩:=hI1.Zis he1 rfl hv1 (.frz e.ty (d.set i.toNat x)) rfl ⟨v',hv1,hrd⟩;exact ⟨_,_,_,hf01.trans (Frz.one he1 rfl hv1 rfl hle2 (λb hb=>hb)),hI2,by simp only[den];exact hrd,hk⟩
     ·exact hk.elim
    ·exact hk.elim
   ·exact ⟨E,H,_,Frz.refl E H,hI,hd,hk⟩
  ·exact ⟨E,H,_,Frz.refl E H,hI,hd,hk⟩
theorem Znq {B:Base} {E:Env} {H:List Entry} (hI:Inv B E H) {s:SV} {v:Value} (hd:den E s v) {K:SV->List Entry->Prop} (hk:Zr1 s H K) :
  ∃ E' H' s',Frz E H E' H'/\Inv B E' H'/\den E' s' v/\K s' H':=Zit 3 _ _ hI _ _ hd _ hk
theorem ZlO {B:Base} (cs:List SV) {E:Env} {H:List Entry} (hI:Inv B E H) {vs:List Value} (hd:ZT E cs vs) {K:List SV->List Entry->Prop} (hk:ZoC cs H K) :
  ∃ E' H' cs',Frz E H E' H'/\Inv B E' H'/\ZT E' cs' vs/\K cs' H' :=
 Zmu (λ_ _ hI _ _ hd _ hk=>Znq hI hd hk) cs hI hd hk
theorem Zr0 {B:Base} {E:Env} {H:List Entry} (hI:Inv B E H) {s:SV} {v:Value} (hd:den E s v) (hw:s.whole=true) {K:List SV->List Entry->Prop} (hk:ZrZ s H K) :
  ∃ E' H' cs',Frz E H E' H'/\Inv B E' H'/\ZT E' cs' v.cells.toList/\K cs' H':=by
 unfold ZrZ at hk;split at hk
 ·rename_i f caps
  simp only[den] at hd;obtain ⟨vs,rfl,hd⟩:=hd;obtain ⟨E1,H1,cs',hf1,hI1,hd1,hk⟩:=ZlO _ hI hd hk;exact ⟨E1,H1,[.fn f cs'],hf1,hI1,⟨by simp only[den];exact ⟨vs,rfl,hd1⟩,trivial⟩,hk⟩
 ·rename_i id off
  have hc:=(Zgs hd rfl).1;obtain ⟨E1,H1,s',hf1,hI1,hd1,hk⟩:=Znq hI hd hk;exact ⟨E1,H1,[s'],hf1,hI1,by rw[hc];exact ⟨hd1,trivial⟩,hk⟩
 ·obtain ⟨E0,H0,cs0,hf0,hI0,hd0,hk⟩:=ZlO _ hI (Vt hd hw) hk
  obtain ⟨E1,H1,cs',hf1,hI1,hd1,hk,_⟩:=XI _ hI0 hd0 hk;exact ⟨E1,H1,_,hf0.trans hf1,hI1,hd1,hk⟩
theorem ZjV {E E':Env} (h:E.le E') {fp:List Nat} (hw:∀ g∈fp,E'.w.heap[g]?=E.w.heap[g]?):∀ (s:Sh) (d:s.den) (v:Value),Zq1 E.S E.w s d v fp->Zq1 E'.S E'.w s d v fp
 | .dat t,_,_,⟨h0,h1,h2,h3⟩=>⟨h0,h1,h2,Z7 h.S h.w t _ _ h3⟩
 | .own e,_,_,⟨h1,h2⟩=>⟨h1,Ye h.S h.w e _ _ _ hw h2⟩
 | .back e,_,_,⟨h1,h2⟩=>⟨h1,Ye h.S h.w e _ _ _ hw h2⟩
 | .io e,_,_,⟨b,cs,T,f,h1,h2,h3,h4⟩=>⟨b,cs,T,f,h1,by rw[hw b (by rw[h4];simp)];exact h2,Ye h.S h.w e _ _ _ (λg hg=>hw g (by rw[h4];simp[hg])) h3,h4⟩
theorem Zn0 {E E':Env} (h:E.le E'):∀ (l:List Sh) (d:Shs l) (vs:List Value) (fp:List Nat),(∀ g∈fp,E'.w.heap[g]?=E.w.heap[g]?)->Zcw E.S E.w l d vs fp->Zcw E'.S E'.w l d vs fp
 | [],_,_,_,_,h=>h
 | s::r,_,_,_,hw,⟨v,vr,f,fr,e,ef,h1,h2⟩=>⟨v,vr,f,fr,e,ef,ZjV h (λg hg=>hw g (by rw[ef];simp[hg])) s _ _ h1,Zn0 h r _ _ _ (λg hg=>hw g (by rw[ef];simp[hg])) h2⟩
theorem ZhW {E E':Env} (h:E.le E'):∀ (l:List Sh) (d:Ios l) (vs:List Value) (fp:List Nat),(∀ g∈fp,E'.w.heap[g]?=E.w.heap[g]?)->Zen E.S E.w l d vs fp->Zen E'.S E'.w l d vs fp
 | [],_,_,_,_,h=>h
 | .io e::r,_,_,_,hw,⟨v,vr,f,fr,e',ef,h1,h2⟩=>⟨v,vr,f,fr,e',ef,ZjV h (λg hg=>hw g (by rw[ef];simp[hg])) (.io e) _ _ h1,ZhW h r _ _ _ (λg hg=>hw g (by rw[ef];simp[hg])) h2⟩
 | .back e::r,_,_,_,hw,⟨v,vr,f,fr,e',ef,h1,h2⟩=>⟨v,vr,f,fr,e',ef,ZjV h (λg hg=>hw g (by rw[ef];simp[hg])) (.back e) _ _ h1,ZhW h r _ _ _ (λg hg=>hw g (by rw[ef];simp[hg])) h2⟩
 | .dat _::r,_,_,_,hw,⟨v,vr,e,h2⟩=>⟨v,vr,e,ZhW h r _ _ _ hw h2⟩
 | .own _::r,_,_,_,hw,⟨v,vr,e,h2⟩=>⟨v,vr,e,ZhW h r _ _ _ hw h2⟩
theorem ZoV {α:Type} {R R':α->List Value->List Nat->Prop} (h:∀ d vs f,R d vs f->R' d vs f) (l:List α) (xs:List Value) (fp:List Nat) (hr:JV R l xs fp):JV R' l xs fp:=Xk l xs fp (λd vs f _=>h d vs f) hr
theorem ZaA {S S':Nat->Prop} {w:World}:∀ (e:Dp),e.closed=true->∀ (d:e.ty.den) (vs:List Value) (fp:List Nat),Zfj S w e d vs fp->Zfj S' w e d vs fp
 | .flat t,hc,_,_,_,⟨h1,h2⟩=>⟨h1,ZgJ t hc _ _ h2⟩
 | .ol et e,hc,_,_,_,⟨v,xs,fps,e1,ho,hr,e2⟩=>⟨v,xs,fps,e1,ho,ZoV (λd vs f=>ZaA e hc d vs f) _ _ _ hr,e2⟩
 | .mp k v,hc,_,_,_,⟨b,es,clk,e1,e2,hh,h⟩=>by
  simp only[Dp.closed,Bool.and_eq_true] at hc;exact ⟨b,es,clk,e1,e2,hh,Zan (λd vs=>ZgJ k hc.1 d vs) (λd vs=>ZgJ v hc.2 d vs) _ _ h⟩
 | .pair a b,hc,_,_,_,⟨v1,v2,f1,f2,e1,e2,h1,h2⟩=>by
  simp only[Dp.closed,Bool.and_eq_true] at hc;exact ⟨v1,v2,f1,f2,e1,e2,ZaA a hc.1 _ _ _ h1,ZaA b hc.2 _ _ _ h2⟩
theorem Zh7 {S S':Nat->Prop} {w:World}:∀ (l:List Sh),ZjQ l=true->∀ (d:Shs l) (vs:List Value) (fp:List Nat),Zcw S w l d vs fp->Zcw S' w l d vs fp
 | [],_,_,_,_,h=>h
 | s::r,hf,_,_,_,⟨v,vr,f,fr,e,ef,h1,h2⟩=>by
  simp only[ZjQ,Bool.and_eq_true] at hf;refine ⟨v,vr,f,fr,e,ef,?_,Zh7 r hf.2 _ _ _ h2⟩;cases s with
  | dat t=>obtain ⟨a,b,c,d⟩:=h1;exact ⟨a,b,c,ZgJ t hf.1 _ _ d⟩
  | own e=>exact ⟨h1.1,ZaA e hf.1 _ _ _ h1.2⟩
  | back e=>exact ⟨h1.1,ZaA e hf.1 _ _ _ h1.2⟩
  | io e=>obtain ⟨b,cs,T,f',a1,a2,a3,a4⟩:=h1;exact ⟨b,cs,T,f',a1,a2,ZaA e hf.1 _ _ _ a3,a4⟩
theorem Zcp {S S':Nat->Prop} {w:World}:∀ (l:List Sh),Zhd l=true->∀ (d:Ios l) (vs:List Value) (fp:List Nat),Zen S w l d vs fp->Zen S' w l d vs fp
 | [],_,_,_,_,h=>h
 | .io e::r,hf,_,_,_,⟨v,vr,f,fr,ev,ef,⟨b,cs,T,f',a1,a2,a3,a4⟩,h2⟩=>by
  simp only[Zhd,Bool.and_eq_true] at hf;exact ⟨v,vr,f,fr,ev,ef,⟨b,cs,T,f',a1,a2,ZaA e hf.1 _ _ _ a3,a4⟩,Zcp r hf.2 _ _ _ h2⟩
 | .back e::r,hf,_,_,_,⟨v,vr,f,fr,ev,ef,⟨a1,a2⟩,h2⟩=>by
  simp only[Zhd,Bool.and_eq_true] at hf;exact ⟨v,vr,f,fr,ev,ef,⟨a1,ZaA e hf.1 _ _ _ a2⟩,Zcp r hf.2 _ _ _ h2⟩
 | .dat _::r,hf,_,_,_,⟨v,vr,e,h2⟩=>⟨v,vr,e,Zcp r hf _ _ _ h2⟩
 | .own _::r,hf,_,_,_,⟨v,vr,e,h2⟩=>⟨v,vr,e,Zcp r hf _ _ _ h2⟩
theorem ZtM {E:Env} {s:SV} {v:Value} (h:den E s v) (hw:s.whole=true):(s.isAgg=true->∃ cs,v=.agg cs)/\(s.isAgg=false->v.cells=#[v]):=by
 constructor
 ·intro ha
  cases s<;>simp[SV.isAgg] at ha
  simp only[den] at h;obtain ⟨vs,e,_⟩:=h;exact ⟨_,e⟩
 ·intro ha
  have h1:s.one=true:=by cases s<;>simp_all[SV.isAgg,SV.whole,SV.one]
  exact (Zgs h h1).1
def Handed (B:Base) (l:List Sh) (E:Env) (H:List Entry) (vs:List Value) (gs:List Nat) (K:Shs l->List Entry->Prop):Prop :=
 ∃ E1 H1 as fp,Frz E H E1 H1/\Inv B E1 H1/\Zcw E1.S E1.w l as vs fp/\K as H1/\Loose B E1 H1 (fp++gs)/\ZgV E H H1 fp
theorem Handed.cons {B:Base} {s:Sh} {r:List Sh} {E E1:Env} {H H1:List Entry} {v:Value} {vs:List Value} {gs f:List Nat} {d:s.den} (hf:Frz E H E1 H1) (hs:Zq1 E1.S E1.w s d v f) (hT:ZgV E H H1 f) {K:Shs (s::r)->List Entry->Prop}
  (h:Handed B r E1 H1 vs (f++gs) (λds H2=>K (d,ds) H2)):Handed B (s::r) E H (v::vs) gs K:=by
 obtain ⟨E2,H2,ds,fp,hf2,hI2,hds,hk,hL,hT2⟩:=h;refine ⟨E2,H2,(d,ds),f++fp,hf.trans hf2,hI2,⟨v,vs,f,fp,rfl,rfl,ZjV hf2.le (λg _=>by rw[hf2.w]) s _ _ hs,hds⟩,hk,hL.perm ?_,(hT.later hf2).append (ZgV.after hf hT2)⟩;rw[<-List.append_assoc];exact List.perm_append_comm.append_right gs
theorem Zmt {E:Env} {s:SV} {v:Value} (hd:den E s v) (hw:s.whole=true) {t:Ty} (hag:t.agg=s.isAgg):Zs8 t v:=by
 have hag':=ZtM hd hw;exact ⟨λh=>hag'.1 (by rw[<-hag];exact h),λh=>hag'.2 (by rw[<-hag];exact h)⟩
theorem ZgB {B:Base}:∀ (l:List Sh) (ss:List SV) {E:Env} {H:List Entry} (_:Inv B E H) {vs:List Value} (_:ZT E ss vs) {gs:List Nat} (_:Loose B E H gs) {K:Shs l->List Entry->Prop} (_:Zi9 l ss H K),Handed B l E H vs gs K
 | [],ss,E,H,hI,vs,hd,gs,hL,K,hk=>by
  simp only[Zi9] at hk;split at hk
  ·match vs,hd with
   | [],_=>exact ⟨E,H,(),[],Frz.refl E H,hI,⟨rfl,rfl⟩,hk,hL,ZgV.nil _ _ _⟩
   | _::_,hd=>simp[ZT] at hd
  ·exact hk.elim
 | .dat t::r,ss,E,H,hI,vs,hd,gs,hL,K,hk=>by
  simp only[Zi9] at hk;split at hk
  ·rename_i s ss
   match vs,hd with
   | [],hd=>simp[ZT] at hd
   | v::vs,hd =>
    simp only[ZT] at hd;split at hk
    ·rename_i hc
     obtain ⟨hw,hag⟩:=hc;obtain ⟨E1,H1,cs,hf1,hI1,hd1,hk⟩:=Zr0 hI hd.1 hw hk;obtain ⟨d,rest,v1,v2,e12,hr,hrest,hk⟩:=Y4 t cs _ _ hd1 hk;split at hk
     ·have hv2:v2=[]:=by cases v2 with
       | nil=>rfl
       | cons=>simp[ZT] at hrest
      subst hv2;rw[List.append_nil] at e12;obtain ⟨h1,h2⟩:=Zmt hd.1 hw hag;exact Handed.cons (s:=.dat t) (d:=d) (f:=[]) hf1 ⟨rfl,h1,h2,by rw[e12];exact hr⟩ (ZgV.nil _ _ _) (ZgB r ss hI1 (ZE hf1.le _ _ hd.2) (hL.frz hf1) hk)
     ·exact hk.elim
    ·exact hk.elim
  ·exact hk.elim
 | .own e::r,ss,E,H,hI,vs,hd,gs,hL,K,hk=>by
  simp only[Zi9] at hk;split at hk
  ·rename_i s ss
   match vs,hd with
   | [],hd=>simp[ZT] at hd
   | v::vs,hd =>
    simp only[ZT] at hd;split at hk
    ·rename_i hc
     obtain ⟨hw,hag⟩:=hc;obtain ⟨E1,H1,d,f,hf1,hI1,hr,hk,hL1,hT,_⟩:=Qi hI (Vt hd.1 hw) hL hk;exact Handed.cons hf1 (s:=.own e) ⟨Zmt hd.1 hw hag,hr⟩ hT (ZgB r ss hI1 (ZE hf1.le _ _ hd.2) hL1 hk)
    ·exact hk.elim
  ·exact hk.elim
 | .back e::r,ss,E,H,hI,vs,hd,gs,hL,K,hk=>by
  simp only[Zi9] at hk;split at hk
  ·rename_i s ss
   match vs,hd with
   | [],hd=>simp[ZT] at hd
   | v::vs,hd =>
    simp only[ZT] at hd;split at hk
    ·rename_i hc
     obtain ⟨hw,hag⟩:=hc;obtain ⟨E1,H1,d,f,hf1,hI1,hr,hk,hL1,hT,_⟩:=Qi hI (Vt hd.1 hw) hL hk;exact Handed.cons hf1 (s:=.back e) ⟨Zmt hd.1 hw hag,hr⟩ hT (ZgB r ss hI1 (ZE hf1.le _ _ hd.2) hL1 hk)
    ·exact hk.elim
  ·exact hk.elim
 | .io e::r,ss,E,H,hI,vs,hd,gs,hL,K,hk=>by
  simp only[Zi9] at hk;split at hk
  ·rename_i id ss
   match vs,hd with
   | [],hd=>simp[ZT] at hd
   | v::vs,hd =>
    simp only[ZT] at hd;obtain ⟨en,he,hk⟩:=Yy H hk;split at hk
    ·rename_i cells
     rw[YU] at hk;have hv:=hd.1;simp only[den] at hv;obtain ⟨b,hb0,hv⟩:=hv;obtain ⟨b',cs0,T,e1,e2,e3⟩:=hI.ent id _ he;have:=hb0.symm.trans e1;simp at this;subst this;have t1:Frz E H E (H.set id .gone):=Frz.one he rfl hb0 rfl (Env.le.refl E) (λb hb=>.inl hb);have t3:=hL.take hI he rfl hb0 (f:=[b]) (by simp) (λg hg=>by
      simp at hg;subst hg;rfl)
     have t4:ZgV E H (H.set id .gone) [b]:=λg hg=>by
      simp at hg;subst hg;exact ⟨id,_,_,he,rfl,hb0,rfl,Zr2 he⟩
     obtain ⟨E1,H1,d,f,hf1,hI1,hr,hk,hL1,hT,_⟩:=Qi (hI.drop id) e3 t3 hk;refine Handed.cons (t1.trans hf1) (s:=.io e) (f:=b::f) ⟨b,cs0,T,f,hv,by rw[hf1.w];exact e2,hr,rfl⟩ ?_ (ZgB r ss hI1 (ZE hf1.le _ _ hd.2) (hL1.perm ?_) hk)
     ·exact ((t4.later hf1).append (ZgV.after t1 hT)).sub (λg hg=>by simpa using hg)
     ·simp only[List.cons_append,List.nil_append]
      exact List.perm_middle
    ·exact hk.elim
  ·exact hk.elim
theorem Zko {E:Env} {t:Ty} {v:Value} (hf:Zs8 t v) {cs:List SV} (hd:ZT E cs v.cells.toList) {K:SV->Prop} (hk:Znk t cs K):∃ s,den E s v/\K s:=by
 unfold Znk at hk;split at hk
 ·rename_i ha
  obtain ⟨cs',rfl⟩:=hf.1 ha;exact ⟨.agg _,by simp only[den];exact ⟨cs'.toList,by simp,hd⟩,hk⟩
 ·rename_i ha
  have hv:=hf.2 (by simpa using ha);split at hk
  ·rename_i c r
   rw[hv] at hd;simp only[ZT] at hd;exact ⟨c,hd.1,hk⟩
  ·exact hk.elim
theorem Zty {E:Env} {t:Ty} {d:t.den} {v:Value} (h:Zwu E.S E.w t d v) {K:SV->Prop} (hk:Znk t (ZdP t d) K):∃ s,den E s v/\K s:=by
 obtain ⟨h1,h2,h3⟩:=h;have hd:=Y0 t d _ h3;unfold Znk at hk;split at hk
 ·rename_i ha
  obtain ⟨cs,rfl⟩:=h1 ha;exact ⟨.agg _,by simp only[den];exact ⟨cs.toList,by simp,hd⟩,hk⟩
 ·rename_i ha
  have hv:=h2 (by simpa using ha);split at hk
  ·rename_i c r heq
   rw[heq,hv] at hd;simp only[ZT] at hd;exact ⟨c,hd.1,hk⟩
  ·exact hk.elim
theorem Zgb {B:Base} {E:Env}:∀ (e:Dp) (cs:List SV) (x:e.ty.den) {H:List Entry} (_:Inv B E H) {vs vr:List Value} (_:ZT E cs (vs++vr)) {f gs:List Nat} (_:Zfj E.S E.w e x vs f) (_:Loose B E H (f++gs)) {K:List SV->List Entry->Prop} (_:Zdv e cs x H K),
  ∃ H' r,Inv B E H'/\Loose B E H' gs/\ZT E r vr/\K r H'
 | .flat t,cs,x,H,hI,vs,vr,hd,f,gs,⟨hf,hr⟩,hL,K,hk=>by
  simp only[Zdv,ZaN] at hk;have hl:=Xj t x vs hr;have:=Vv _ _ hd t.size;rw[<-hl,List.drop_left] at this;subst hf;exact ⟨H,_,hI,hL,this,by rw[hl];exact hk⟩
 | .ol et e,cs,d,H,hI,vs,vr,hd,f,gs,hr,hL,K,hk=>by
  have hr0:=hr;obtain ⟨v,xs,fps,ev,ho,hrs,ef⟩:=hr;subst ev;simp only[Zdv] at hk;split at hk
  ·rename_i r
   simp only[List.cons_append,List.nil_append,ZT,den] at hd;obtain ⟨rfl,hd⟩:=hd;refine ⟨H,r,hI,?_,hd,hk⟩;rcases ho.2 with ⟨_,hn⟩ | ⟨g,cap,cur,o,hv,_⟩
   ·have:d=[]:=List.eq_nil_of_length_eq_zero hn
    subst this;have:fps=[]:=hrs.2;subst this;rw[ef] at hL;simpa[Yh] using hL
   ·simp at hv
  ·rename_i id r
   simp only[List.cons_append,List.nil_append,ZT,den] at hd;obtain ⟨⟨hid,_⟩,hd⟩:=hd;have hlt:id<H.length:=by
    have:=(List.getElem?_eq_some_iff.1 hid).1;rw[<-hI.len];exact this
   obtain ⟨e1,h1,h2,h3,_⟩:=Zsw e hI hlt hid hr0 hL hk;exact ⟨_,r,h1,h2,hd,h3⟩
  ·exact hk.elim
 | .mp kt vt,cs,d,H,hI,vs,vr,hd,f,gs,⟨b,es,clk,e1,e2,hh,hr⟩,hL,K,hk=>by
  subst e1;simp only[Zdv] at hk;split at hk
  ·rename_i id r
   simp only[List.cons_append,List.nil_append,ZT,den] at hd;obtain ⟨⟨hid,_⟩,hd⟩:=hd;rw[YU] at hk;have hlt:id<H.length:=by
    have:=(List.getElem?_eq_some_iff.1 hid).1;rw[<-hI.len];exact this
   obtain ⟨h1,h2⟩:=hL.put hI hlt hid (.mpe kt vt d) (λ_ g hg=>by
    have hg:Yh (.map (some b))=some g:=hg;simp[Yh] at hg;rw[e2];simp[hg]) ⟨b,es,clk,hid,hh,hr⟩
   exact ⟨_,r,h1,h2,hd,hk⟩
  ·exact hk.elim
 | .pair a b,cs,d,H,hI,vs,vr,hd,f,gs,⟨v1,v2,f1,f2,ev,ef,h1,h2⟩,hL,K,hk=>by
  simp only[Zdv,QK] at hk;subst ev;subst ef;rw[List.append_assoc] at hd hL;obtain ⟨H1,r,hI1,hL1,hd1,hk⟩:=Zgb a cs d.1 hI hd h1 hL hk;exact Zgb b r d.2 hI1 hd1 h2 hL1 hk
theorem Zky {B:Base}:∀ (l:List Sh) (ss:List SV) (ios:Ios l) {E:Env} {H:List Entry} (_:Inv B E H) {vs:List Value} (_:ZT E ss vs) {fio gs:List Nat} (_:Zen E.S E.w l ios vs fio) (_:Loose B E H (fio++gs)) {K:List Entry->Prop} (_:Zrb l ss ios H K),
  ∃ E' H',E'.w=E.w/\E'.S=E.S/\Inv B E' H'/\E.le E'/\Loose B E' H' gs/\K H'
 | [],ss,ios,E,H,hI,vs,hd,fio,gs,hio,hL,K,hk=>by
  have:fio=[]:=hio;subst this;exact ⟨E,H,rfl,rfl,hI,Env.le.refl E,hL,hk⟩
 | .io e::r,ss,ios,E,H,hI,vs,hd,fio,gs,⟨v,vr,f,fr,ev,ef,⟨b,cs,T,f',a1,a2,a3,a4⟩,hio⟩,hL,K,hk=>by
  simp only[Zrb] at hk;subst ev;subst ef;subst a4;subst a1;split at hk
  ·rename_i id ss
   simp only[ZT,den] at hd;obtain ⟨⟨b',hid,hb'⟩,hd⟩:=hd;simp at hb';subst hb';simp only[QK] at hk;have hL1:Loose B E H (f'++(b::(fr++gs))):=hL.perm (by
    simp only[List.cons_append,List.append_assoc];exact List.perm_middle.symm)
   obtain ⟨E1,H1,cells,hw1,hS1,hI1,hle1,hd1,hk,hL2,_⟩:=QS e ios.1 hI a3 hL1 hk;rw[YU] at hk;have hid1:=hle1.ids _ _ hid;have hlt:id<H1.length:=by
    have:=(List.getElem?_eq_some_iff.1 hid1).1;rw[<-hI1.len];exact this
   obtain ⟨hI2,hL3⟩:=Loose.put (f:=[b]) (gs:=fr++gs) hL2 hI1 hlt hid1 (.box cells) (λ_ g hg=>by
    have hg:some b=some g:=hg;simp at hg;simp[hg]) ⟨b,cs,T,hid1,by rw[hw1];exact a2,hd1⟩
   obtain ⟨E2,H2,hw2,hS2,hI3,hle2,hL4,hk⟩:=Zky r ss ios.2 hI2 (ZE hle1 _ _ hd) (by rw[hS1,hw1];exact hio) hL3 hk;exact ⟨E2,H2,hw2.trans hw1,hS2.trans hS1,hI3,hle1.trans hle2,hL4,hk⟩
  ·exact hk.elim
 | .back e::r,ss,ios,E,H,hI,vs,hd,fio,gs,⟨v,vr,f,fr,ev,ef,⟨a1,a2⟩,hio⟩,hL,K,hk=>by
  simp only[Zrb] at hk;subst ev;subst ef;split at hk
  ·rename_i s ss
   simp only[ZT] at hd;split at hk
   ·rename_i hw
    simp only[QK] at hk;rw[List.append_assoc] at hL;obtain ⟨H1,r',hI1,hL1,_,hk⟩:=Zgb e s.cells ios.1 hI (vs:=v.cells.toList) (vr:=[]) (by rw[List.append_nil];exact Vt hd.1 hw) a2 hL hk;exact Zky r ss ios.2 hI1 hd.2 hio hL1 hk
   ·exact hk.elim
  ·exact hk.elim
 | .dat _::r,ss,ios,E,H,hI,vs,hd,fio,gs,⟨v,vr,ev,hio⟩,hL,K,hk=>by
  simp only[Zrb] at hk;subst ev;split at hk
  ·simp only[ZT] at hd
   exact Zky r _ ios hI hd.2 hio hL hk
  ·exact hk.elim
 | .own _::r,ss,ios,E,H,hI,vs,hd,fio,gs,⟨v,vr,ev,hio⟩,hL,K,hk=>by
  simp only[Zrb] at hk;subst ev;split at hk
  ·simp only[ZT] at hd
   exact Zky r _ ios hI hd.2 hio hL hk
  ·exact hk.elim
theorem ZgK {B:Base}:∀ (l:List Sh) (rs:Shs l) (us:List Value) {E:Env} {H:List Entry} (_:Inv B E H) {fp gs:List Nat} (_:Zcw E.S E.w l rs us fp) (_:Loose B E H (fp++gs)) {K:List SV->List Entry->Prop} (_:ZiK l rs H K),
  ∃ E' H' ss,E'.w=E.w/\E'.S=E.S/\Inv B E' H'/\E.le E'/\ZT E' ss us/\K ss H'
 | [],rs,us,E,H,hI,fp,gs,hd,hL,K,hk=>by
  obtain ⟨rfl,rfl⟩:=hd;exact ⟨E,H,[],rfl,rfl,hI,Env.le.refl E,trivial,hk⟩
 | .dat t::r,rs,us,E,H,hI,fp,gs,⟨u,ur,f,fr,e,ef,⟨hf,h1⟩,h2⟩,hL,K,hk=>by
  subst e;subst hf;subst ef;simp only[ZiK,QK,Xr] at hk;obtain ⟨s,hs,hk⟩:=Zty h1 hk;obtain ⟨E',H',ss,hw,hS,hI',hle,hds,hk⟩:=ZgK r rs.2 ur hI h2 hL hk;exact ⟨E',H',s::ss,hw,hS,hI',hle,⟨ZdX hle s u hs,hds⟩,hk⟩
 | .own e::r,rs,us,E,H,hI,fp,gs,⟨u,ur,f,fr,ev,ef,⟨hform,h1⟩,h2⟩,hL,K,hk=>by
  subst ev;subst ef;simp only[ZiK,QK] at hk;rw[List.append_assoc] at hL;obtain ⟨E1,H1,cs,hw1,hS1,hI1,hle1,hd1,hk,hL1,_⟩:=QS e rs.1 hI h1 hL hk;obtain ⟨s,hs,hk⟩:=Zko hform hd1 hk;obtain ⟨E',H',ss,hw,hS,hI',hle,hds,hk⟩:=ZgK r rs.2 ur hI1 (by rw[hS1,hw1];exact h2) hL1 hk;exact ⟨E',H',s::ss,hw.trans hw1,hS.trans hS1,hI',hle1.trans hle,⟨ZdX hle s u hs,hds⟩,hk⟩
 | .back e::r,rs,us,E,H,hI,fp,gs,⟨u,ur,f,fr,ev,ef,⟨hform,h1⟩,h2⟩,hL,K,hk=>by
  subst ev;subst ef;simp only[ZiK,QK] at hk;rw[List.append_assoc] at hL;obtain ⟨E1,H1,cs,hw1,hS1,hI1,hle1,hd1,hk,hL1,_⟩:=QS e rs.1 hI h1 hL hk;obtain ⟨s,hs,hk⟩:=Zko hform hd1 hk;obtain ⟨E',H',ss,hw,hS,hI',hle,hds,hk⟩:=ZgK r rs.2 ur hI1 (by rw[hS1,hw1];exact h2) hL1 hk;exact ⟨E',H',s::ss,hw.trans hw1,hS.trans hS1,hI',hle1.trans hle,⟨ZdX hle s u hs,hds⟩,hk⟩
 | .io e::r,rs,us,E,H,hI,fp,gs,⟨u,ur,f,fr,ev,ef,⟨b,cs,T,f',a1,a2,a3,a4⟩,h2⟩,hL,K,hk=>by
  subst ev;subst ef;subst a4;subst a1;simp only[ZiK,QK] at hk;have hL1:Loose B E H (f'++(b::(fr++gs))):=hL.perm (by
   simp only[List.cons_append,List.append_assoc];exact List.perm_middle.symm)
  obtain ⟨E1,H1,cells,hw1,hS1,hI1,hle1,hd1,hk,hL2,_⟩:=QS e rs.1 hI a3 hL1 hk;simp only[ZlU,Zax,Ju,Nat.zero_add] at hk;have hid:(E1.ids++[Value.pointer (some ⟨b,0,none⟩)])[H1.length]?=some (.pointer (some ⟨b,0,none⟩)):=by rw[<-hI1.len];simp
  have hle2:=ZgZ E1 (.pointer (some ⟨b,0,none⟩));obtain ⟨hI2,hL3⟩:=Loose.push (f:=[b]) (gs:=fr++gs) hL2 hI1 (.pointer (some ⟨b,0,none⟩)) (.box cells) (λ_ g hg=>by
   have hg:some b=some g:=hg;simp at hg;simp[hg]) ⟨b,cs,T,hid,by show E1.w.heap[b]?=_;rw[hw1];exact a2,ZE hle2 _ _ hd1⟩
  obtain ⟨E',H',ss,hw,hS,hI',hle,hds,hk⟩:=ZgK r rs.2 ur hI2 (by
   show Zcw E1.S E1.w r rs.2 ur fr;rw[hS1,hw1];exact h2) hL3 hk
  refine ⟨E',H',.ptr H1.length 0::ss,hw.trans hw1,hS.trans hS1,hI',hle1.trans (hle2.trans hle),⟨ZdX hle _ _ ?_,hds⟩,hk⟩;simp only[den];exact ⟨b,hid,rfl⟩
theorem Zp2 {E:Env} {ss:List SV} {us:List Value} (h:ZT E ss us) {v:Value} (hv:retv us v) {K:SV->Prop} (hk:ZnJ ss K):∃ s,den E s v/\K s:=by
 unfold ZnJ at hk;unfold retv at hv;split at hk
 ·rename_i s
  match us,h with
  | [u],h=>simp only[ZT] at h;subst hv;exact ⟨s,h.1,hk⟩
  | [],h=>simp[ZT] at h
  | _::_::_,h=>simp[ZT] at h
 ·rename_i hne
  have hl:=Yl _ _ h;split at hv
  ·rename_i u
   match ss,hl with
   | [s],_=>exact absurd rfl (hne s)
  ·subst hv
   exact ⟨.tup ss,by simp only[den];exact ⟨us,rfl,h⟩,hk⟩
theorem Loose.behind {B:Base} {E:Env} {H:List Entry} {fp:List Nat} (hL:Loose B E H fp) (hI:Inv B E H) {w':World} {S0:Nat->Prop} (hk:Keeps ⟨E.w,S0,λb=>b∈fp,[]⟩ w') {S2:Nat->Prop} (hS:∀ b,E.S b->S2 b)
  (hS2:∀ b,S2 b->b<w'.heap.size/\(b<E.w.heap.size->E.S b\/b∈fp)) {l:List Nat} (hl:l.Nodup) (hfree:∀ g∈l,¬S2 g/\g<w'.heap.size/\(E.w.heap.size<=g\/g∈fp)) :
  E.le ⟨S2,w',E.ids⟩/\Inv B ⟨S2,w',E.ids⟩ H/\Loose B ⟨S2,w',E.ids⟩ H l:=by
 have hle:E.le ⟨S2,w',E.ids⟩:=⟨hS,λb hb=>hk.block b (hI.Slt b hb) (λhp=>(hL.free b hp).1 hb),λ_ _ hh=>hh⟩;refine ⟨hle,?_,hl,λg hg=>?_,λg hg j e v hj hlv hv hb=>?_⟩
 ·exact
   {keeps:=⟨hk.os.trans hI.keeps.os,hk.tape.trans hI.keeps.tape,hk.output.trans hI.keeps.output,Nat.le_trans hI.keeps.size hk.size,λb hb hio =>
     (hk.block b (Nat.lt_of_lt_of_le hb hI.keeps.size) (λhp=>by
      rcases (hL.free b hp).2.1 with h1 | h1
      ·omega
      ·exact hio h1)).trans (hI.keeps.block b hb hio)⟩
    Slt:=λb hb=>(hS2 b hb).1
    Sold:=λb hb hlt=>by
     rcases (hS2 b hb).2 (Nat.lt_of_lt_of_le hlt hI.keeps.size) with h | h
     ·exact hI.Sold b h hlt
     ·rcases (hL.free b h).2.1 with h1 | h1
      ·omega
      ·exact .inr h1
    len:=hI.len
    pin:=hI.pin
    ent:=λj e hj=>Zcc hle j e (λhlv v g hv hb=>hk.block g (hI.free j e v g hj hlv hv hb).2.2 (λhp=>hL.apart g hp j e v hj hlv hv hb)) (hI.ent j e hj)
    free:=λj e v g hj hlv hv hb=>by
     obtain ⟨a,b,c⟩:=hI.free j e v g hj hlv hv hb;refine ⟨λhs=>?_,b,Nat.lt_of_lt_of_le c hk.size⟩;rcases (hS2 g hs).2 c with h | h
     ·exact a h
     ·exact hL.apart g h j e v hj hlv hv hb
    sep:=hI.sep}
 ·obtain ⟨a,b,c⟩:=hfree g hg
  refine ⟨a,?_,b⟩;rcases c with c | c
  ·exact .inl (Nat.le_trans hI.keeps.size c)
  ·exact (hL.free g c).2.1
 ·obtain ⟨_,_,c⟩:=hfree g hg
  rcases c with c | c
  ·have:=(hI.free j e v g hj hlv hv hb).2.2;omega
  ·exact hL.apart g c j e v hj hlv hv hb
def Zcb:List Sh->Bool
 | []=>true
 | .dat _::r=>Zcb r
 | _::_=>false
theorem ZiM {S:Nat->Prop} {w:World}:∀ (l:List Sh) (d:Shs l) (vs:List Value) (fp:List Nat),Zcb l=true->Zcw S w l d vs fp->fp=[]
 | [],_,_,_,_,h=>h.2
 | .dat _::r,_,_,_,hd,⟨v,vr,f,fr,e,ef,⟨h1,_⟩,h2⟩=>by rw[ef,h1,ZiM r _ _ _ hd h2];rfl
 | .own _::_,_,_,_,h,_=>by simp[Zcb] at h
 | .io _::_,_,_,_,h,_=>by simp[Zcb] at h
 | .back _::_,_,_,_,h,_=>by simp[Zcb] at h
def ZfZ:List Sh->Bool
 | []=>true
 | .dat _::r=>ZfZ r
 | .io (.flat _)::r=>ZfZ r
 | _::_=>false
def ZhV:List Sh->List Bool
 | []=>[]
 | .io _::r=>true::ZhV r
 | _::r=>false::ZhV r
def pick {α:Type}:List Bool->List α->List α
 | true::m,x::r=>x::pick m r
 | false::m,_::r=>pick m r
 | _,_=>[]
theorem ZmO {α β:Type} (f:α->β):∀ (m:List Bool) (l:List α),pick m (l.map f)=(pick m l).map f
 | [],l=>by cases l<;>rfl
 | true::m,[]=>rfl
 | false::m,[]=>rfl
 | true::m,x::r=>by simp only[List.map_cons,pick,ZmO f m r]
 | false::m,x::r=>by simp only[List.map_cons,pick,ZmO f m r]
theorem Zhn {S:Nat->Prop} {w:World}:∀ (l:List Sh) (d:Shs l) (vs:List Value) (fp:List Nat),ZfZ l=true->Zcw S w l d vs fp->∀ g∈fp,∃ v∈pick (ZhV l) vs,Yh v=some g
 | [],_,_,_,_,h,g,hg=>by rw[h.2] at hg;cases hg
 | .dat _::r,_,_,_,hd,⟨v,vr,f,fr,e,ef,⟨h1,_⟩,h2⟩,g,hg=>by
  rw[ef,h1,List.nil_append] at hg;rw[e];exact Zhn r _ _ _ hd h2 g hg
 | .io (.flat t)::r,_,_,_,hd,⟨v,vr,f,fr,e,ef,⟨b,cs,T,f',hv,_,hr,hf⟩,h2⟩,g,hg=>by
  have hf':f'=[]:=hr.1;rw[ef,hf,hf'] at hg;rw[e];rcases List.mem_append.1 hg with hg | hg
  ·rw[List.mem_singleton] at hg
   exact ⟨v,by simp[ZhV,pick],by rw[hv,hg];rfl⟩
  ·obtain ⟨u,hu,hb⟩:=Zhn r _ _ _ hd h2 g hg
   exact ⟨u,by simp only[ZhV,pick];exact List.mem_cons_of_mem _ hu,hb⟩
 | .io (.ol _ _)::_,_,_,_,h,_,_,_=>by simp[ZfZ] at h
 | .io (.pair _ _)::_,_,_,_,h,_,_,_=>by simp[ZfZ] at h
 | .io (.mp _ _)::_,_,_,_,h,_,_,_=>by simp[ZfZ] at h
 | .own _::_,_,_,_,h,_,_,_=>by simp[ZfZ] at h
 | .back _::_,_,_,_,h,_,_,_=>by simp[ZfZ] at h
theorem Ztq {P:Program} {B:Base} {E:Env} {H:List Entry} (hI:Inv B E H) {f:FuncId} {C:Ctr} (hC:Za P f C) {ss:List SV} {vs:List Value} (hd:ZT E ss vs)
  {K:SV->List Entry->Prop} (hk:Zvs C ss H K) :
  Calls P f vs.toArray E.w λe w'=>∃ v E' H' s,e=.returned v/\E'.w=w'/\Inv B E' H'/\E.le E'/\den E' s v/\K s H'/\(Zcb C.args=true->Grow E.w w')/\(ZfZ C.args=true->∀ b,b<E.w.heap.size->(∀ v∈pick (ZhV C.args) vs,Yh v≠some b)->w'.heap[b]?=E.w.heap[b]?):=by
 unfold Zvs at hk;obtain ⟨E1,H1,as,fp,hf1,hI1,has,hk,hL1,hT⟩:=ZgB C.args ss hI hd (Loose.none B E H) hk;rw[List.append_nil] at hL1;have hcall:=hC.2 E1.w E1.S vs as fp _ hI1.Slt has hL1.nodup (λg hg=>⟨(hL1.free g hg).1,(hL1.free g hg).2.2⟩) hk;rw[hf1.w] at hcall;refine hcall.mono ?_;rintro e w' ⟨v,us,rs,ios,S',fr,fio,he,hv,hk,hkeeps,hS1,hS2,hrets,hios,hnd,hfree⟩;have hgrow:Zcb C.args=true->Grow E.w w':=by
  intro hda b hb;refine hkeeps.block b hb ?_;rw[ZiM _ _ _ _ hda has];simp
 have hstay:ZfZ C.args=true->∀ b,b<E.w.heap.size->(∀ v∈pick (ZhV C.args) vs,Yh v≠some b)->w'.heap[b]?=E.w.heap[b]?:=by
  intro hfl b hb hne;refine hkeeps.block b hb (λhm=>?_);obtain ⟨u,hu,hbu⟩:=Zhn _ _ _ _ hfl has b hm;exact hne u hu hbu
 have fin:∀ (E0:Env) (H0:List Entry) (S2:Nat->Prop),E0.w=E.w->Inv B E0 H0->E.le E0->Loose B E0 H0 fp->(∀ b,E0.S b->S2 b)->(∀ b,S2 b->S' b)->(∀ b,S2 b->b<w'.heap.size/\(b<E.w.heap.size->E0.S b\/b∈fp))->
   Zcw S2 w' C.rets rs us fr->Zen S2 w' C.args ios vs fio->
   (Zrb C.args ss ios H0 λH2=>ZiK C.rets rs H2 λss' H3=>ZnJ ss' λs=>K s H3)->
   ∃ v E' H' s,e=.returned v/\E'.w=w'/\Inv B E' H'/\E.le E'/\den E' s v/\K s H'/\(Zcb C.args=true->Grow E.w w')/\(ZfZ C.args=true->∀ b,b<E.w.heap.size->(∀ v∈pick (ZhV C.args) vs,Yh v≠some b)->w'.heap[b]?=E.w.heap[b]?):=by
  intro E0 H0 S2 hw0 hI0 hle0 hL0 hSa hSb hSc hr2 hi2 hk;obtain ⟨hleb,hI2,hL2⟩:=hL0.behind hI0 (w':=w') (S0:=E1.S) (by rw[hw0];exact hkeeps) (S2:=S2) hSa (by rw[hw0];exact hSc) hnd (λg hg=>by
   obtain ⟨a,b,c⟩:=hfree g hg;exact ⟨λhs=>a (hSb g hs),b,by rw[hw0];exact c⟩)
  obtain ⟨E2,H2,hw2,hS2',hI3,hle2,hL3,hk⟩:=Zky C.args ss ios hI2 (ZE (hle0.trans hleb) _ _ hd) hi2 hL2 hk;obtain ⟨E3,H3,ss',hw3,hS3,hI4,hle3,hds,hk⟩:=ZgK C.rets rs us hI3 (gs:=[]) (by rw[hS2',hw2];exact hr2) (by rw[List.append_nil];exact hL3) hk;obtain ⟨s,hs,hk⟩:=Zp2 hds hv hk;exact ⟨v,E3,H3,s,he,hw3.trans hw2,hI4,((hle0.trans hleb).trans hle2).trans hle3,hs,hk,hgrow,hstay⟩
 split at hk
 ·rename_i hflat
  simp only[Bool.and_eq_true] at hflat;obtain ⟨hIr,hLr⟩:=ZoW hI hf1 hL1 hT;rw[Znn] at hk;exact fin E (ZjH H H1) E.S rfl hIr (Env.le.refl E) hLr (λb h=>h) (λb h=>hS1 b (hf1.le.S b h)) (λb hb=>⟨Nat.lt_of_lt_of_le (hI.Slt b hb) hkeeps.size,λ_=>.inl hb⟩)
   (Zh7 _ hflat.1 _ _ _ hrets) (Zcp _ hflat.2 _ _ _ hios) hk
 ·exact fin E1 H1 S' hf1.w hI1 hf1.le hL1 hS1 (λb h=>h) (λb hb=>by
   obtain ⟨a,c⟩:=hS2 b hb;exact ⟨a,c⟩) hrets hios hk
end Go.Sx
