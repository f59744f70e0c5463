/-
  Code run on symbolic states: the verification condition; and that it is enough.
-/
import Derived.Test.YtgjjlgodlhhdoaaGreatDoorSxDraw
namespace Go.Sx
set_option linter.unusedVariables false
set_option linter.unusedSimpArgs false
def writes:Code->List Nat
 | .region _ ops _=>ops.toList.filterMap (·.dst)
 | .seq a b=>writes a++writes b
 | .cond _ a b=>writes a++writes b
 | .block _ c=>writes c
 | .loop c=>writes c
 | .scope c=>writes c
 | _=>[]
@[irreducible] def Dead:Prop:=False
theorem Dead.no (h:Dead):False:=by unfold Dead at h;exact h
def Zsp:List Oper->Bool
 | []=>false
 | o::r=>match o.op,o.guard with
  | .panic _,none=>true
  | _,_=>Zsp r
structure Ann where
 loops:List (Nat×List Loc):=[]
 draws:List (Nat×List Nat×J5):=[]
def ZtU:List (Nat×List Loc)->Nat->(List Loc->Prop)->Prop
 | [],_,_=>False
 | (n,l)::r,id,K=>if n=id then K l else ZtU r id K
def ZtV:List (Nat×List Nat×J5)->Nat->(List Nat->J5->Prop)->Prop
 | [],_,_=>False
 | (n,M,l)::r,id,K=>if n=id then K M l else ZtV r id K
theorem ZpO:∀ (A:List (Nat×List Nat×J5)) {id:Nat} {K:List Nat->J5->Prop},ZtV A id K->∃ M l,K M l
 | [],_,_,h=>h.elim
 | (n,M,l)::r,id,K,h=>by
  unfold ZtV at h;split at h
  ·exact ⟨M,l,h⟩
  ·exact ZpO r h
theorem ZpN:∀ (A:List (Nat×List Loc)) {id:Nat} {K:List Loc->Prop},ZtU A id K->∃ l,K l
 | [],_,_,h=>h.elim
 | (n,l)::r,id,K,h=>by
  unfold ZtU at h;split at h
  ·exact ⟨l,h⟩
  ·exact ZpN r h
def Zz7:Loc->Bool
 | .cell id _ _=>Nat.ble 1000 id
 | .cello id _ _=>Nat.ble 1000 id
 | .ent id _ _=>Nat.ble 1000 id
 | .splt id _ _=>Nat.ble 1000 id
 | _=>false
def ZuR:List Loc->Bool
 | []=>false
 | l::r=>match Zz7 l with
  | true=>true
  | false=>ZuR r
def Zt4 (id:Nat) (regs:List SV) (H:List Entry) (K:Nat->Prop):Prop :=
 ZjA regs ((id-1000) / 100) λs=>match s with
  | .ptr b o=>ZeE H b λen=>match en with
   | .box cs=>ZjA cs (o+(id-1000) % 100) λc=>match c with
    | .own i=>K i
    | _=>False
   | _=>False
  | _=>False
def ZsE (regs:List SV) (H:List Entry) (K:Loc->Prop) (l:Loc):Prop:=match Zz7 l with
 | false=>K l
 | true=>match l with
  | .cell id off t=>ZjA regs (id-1000) λs=>match s with
   | .ptr b o=>K (.cell b (o+off) t)
   | _=>False
  | .cello id off e=>ZjA regs (id-1000) λs=>match s with
   | .ptr b o=>K (.cello b (o+off) e)
   | _=>False
  | .ent id et e=>Zt4 id regs H λi=>K (.ent i et e)
  | .splt id et e=>Zt4 id regs H λi=>K (.splt i et e)
  | _=>False
def Zua (regs:List SV) (H:List Entry):List Loc->(List Loc->Prop)->Prop
 | [],K=>K []
 | l::r,K=>ZsE regs H (λl'=>Zua regs H r λr'=>K (l'::r')) l
def ZzI (ls:List Loc) (regs:List SV) (H:List Entry) (K:List Loc->Prop):Prop:=match ZuR ls with
 | false=>K ls
 | true=>Zua regs H ls K
theorem ZhP:∀ (cs:List SV) {n:Nat} {K:SV->Prop},ZjA cs n K->∃ s,K s
 | [],_,_,h=>by simp[ZjA] at h
 | s::r,0,_,h=>⟨s,by simpa[ZjA] using h⟩
 | s::r,n+1,_,h=>ZhP r (by simpa[ZjA] using h)
theorem Zp7 {id:Nat} {regs:List SV} {H:List Entry} {K:Nat->Prop} (h:Zt4 id regs H K):∃ i,K i:=by
 unfold Zt4 at h;obtain ⟨s,h⟩:=ZhP _ h;split at h
 ·obtain ⟨en,_,h⟩:=Yy H h
  split at h
  ·obtain ⟨c,h⟩:=ZhP _ h
   split at h
   ·exact ⟨_,h⟩
   ·exact h.elim
  ·exact h.elim
 ·exact h.elim
theorem ZsF {regs:List SV} {H:List Entry} {K:Loc->Prop} {l:Loc} (h:ZsE regs H K l):∃ l',K l':=by
 unfold ZsE at h;split at h
 ·exact ⟨_,h⟩
 ·split at h
  ·obtain ⟨s,h⟩:=ZhP _ h
   split at h
   ·exact ⟨_,h⟩
   ·exact h.elim
  ·obtain ⟨s,h⟩:=ZhP _ h
   split at h
   ·exact ⟨_,h⟩
   ·exact h.elim
  ·obtain ⟨i,h⟩:=Zp7 h
   exact ⟨_,h⟩
  ·obtain ⟨i,h⟩:=Zp7 h
   exact ⟨_,h⟩
  ·exact h.elim
theorem Zqb {regs:List SV} {H:List Entry}:∀ (ls:List Loc) {K:List Loc->Prop},Zua regs H ls K->∃ ls',K ls'
 | [],_,h=>⟨[],h⟩
 | l::r,K,h=>by
  obtain ⟨l',h⟩:=ZsF (K:=λl'=>Zua regs H r λr'=>K (l'::r')) h;obtain ⟨r',h⟩:=Zqb r h;exact ⟨_,h⟩
theorem Zwi {ls:List Loc} {regs:List SV} {H:List Entry} {K:List Loc->Prop} (h:ZzI ls regs H K):∃ ls',K ls':=by
 unfold ZzI at h;split at h
 ·exact ⟨_,h⟩
 ·exact Zqb ls h
def sx (Δ:Tab) (Γ:Gam) (A:Ann):Code->Nat->(Exit->List SV->List Entry->Prop)->List SV->List Entry->Prop
 | .skip,_,Q,regs,H=>Q .normal regs H
 | .label _,_,Q,regs,H=>Q .normal regs H
 | .ret,_,Q,regs,H=>Q .ret regs H
 | .exit id,_,Q,regs,H=>Q (.exit id) regs H
 | .region id ops draw,_,Q,regs,H=>if Zsp ops.toList=true then Dead else match draw with
  | false=>ZxO Δ Γ ops.toList ops.toList regs H (Q .normal)
  | true=>ZtV A.draws id λM p=>(ZhZ ops&&ZkF ops.toList [] == M&&Za4 Γ ops M p.core ops.size (Array.replicate ops.size false) none)=true/\ZtC Γ ops.toList regs p.core H λV=>ZvB Δ Γ ops.toList V p regs H (Q .normal)
 | .seq a b,cur,Q,regs,H=>sx Δ Γ A a cur (λe r h=>match e with
  | .normal=>sx Δ Γ A b cur Q r h
  | e=>Q e r h) regs H
 | .cond c a b,cur,Q,regs,H=>Vh regs c λs=>match s with
  | .blit true=>sx Δ Γ A a cur Q regs H
  | .blit false=>sx Δ Γ A b cur Q regs H
  | .bool p=>(p=true->sx Δ Γ A a cur Q regs H)/\(p=false->sx Δ Γ A b cur Q regs H)
  | _=>False
 | .block id c,_,Q,regs,H=>sx Δ Γ A c id (λe r h=>match e with
  | .exit id'=>if id'=id then Q .normal r h else Q (.exit id') r h
  | e=>Q e r h) regs H
 | .loop c,cur,Q,regs,H=>ZtU A.loops cur λl0=>ZzI l0 regs H λls=>Zfi ls regs H λv0 H0=>Zgp ls (writes c) λW=>ZqM W regs λregs0=>ZjE ls H0 λH1=>Zoj H1 0 λn0 =>
   ∃ (I:Zol ls->Prop) (μ:Zol ls->Nat),I v0/\∀ v,I v->Znb ls v regs0 H1 λrh Hh=>sx Δ Γ A c cur (λe r h=>match e with
    | .normal=>Zfi ls r h λv' H2=>ZqM W r λr1=>ZjE ls H2 λH3=>Zlz H3 n0 λH4=>(r1=regs0/\H4=H1)/\I v'/\μ v'<μ v
    | e=>Q e r h) rh Hh
 | _,_,_,_,_=>False
theorem ZgG {p:Nat->Prop} (h:∃ n,p n):∃ n,p n/\∀ m,p m->n<=m:=by
 obtain ⟨n,hn⟩:=h;induction n using Nat.strongRecOn with
 | _ n ih =>
  by_cases hlt:∃ m,m<n/\p m
  ·obtain ⟨m,hm,hp⟩:=hlt;exact ih m hm hp
  ·exact ⟨n,hn,λm hm=>Nat.le_of_not_lt λhlt'=>hlt ⟨m,hlt',hm⟩⟩
theorem Ztd {P:Program} {c:Code} {Q:Exit->Act->World->Prop} (J:Nat->Act->World->Prop)
  (round:∀ n a w,J n a w->c.wp P (Exit.then (λa' w'=>∃ m,m<n/\J m a' w') Q) a w) {n:Nat} {a:Act} {w:World} (h:J n a w):(Code.loop c).wp P Q a w:=by
 classical
 let μ:Act->World->Nat:=λa w=>if h:∃ n,J n a w then Classical.choose (ZgG h) else 0
 have hμ:∀ a w (h:∃ n,J n a w),J (μ a w) a w/\∀ m,J m a w->μ a w<=m:=by
  intro a w h;have:μ a w=Classical.choose (ZgG h):=by simp only[μ,dif_pos h]
  rw[this];exact Classical.choose_spec (ZgG h)
 refine wp_loop (λa w=>∃ n,J n a w) μ ⟨n,h⟩ (λa w hJ=>?_);have h1:=(hμ a w hJ).1;refine Code.wp_mono ?_ (round _ a w h1);intro e a' w' hq;cases e with
 | normal =>
  obtain ⟨m,hm,hJm⟩:=hq;exact ⟨⟨m,hJm⟩,Nat.lt_of_le_of_lt ((hμ a' w' ⟨m,hJm⟩).2 m hJm) hm⟩
 | _=>exact hq
theorem ZeK {B:Base} {E:Env}:∀ (ls:List Loc) {H:List Entry} (_:Inv B E H) {gs:List Nat} (_:Loose B E H gs) {K:List Entry->Prop} (_:ZjE ls H K),
  ∃ H',Inv B E H'/\Loose B E H' gs/\K H'/\Boxed H H'
 | [],H,hI,gs,hL,K,hk=>⟨H,hI,hL,hk,Boxed.refl H⟩
 | .reg _ _::q,H,hI,gs,hL,K,hk=>ZeK q hI hL hk
 | .ent _ _ _::q,H,hI,gs,hL,K,hk=>ZeK q hI hL hk
 | .entm _ _ _::q,H,hI,gs,hL,K,hk=>ZeK q hI hL hk
 | .splt _ _ _::q,H,hI,gs,hL,K,hk=>ZeK q hI hL hk
 | .cell id off t::q,H,hI,gs,hL,K,hk=>by
  simp only[ZjE] at hk;obtain ⟨e,he,hk⟩:=Yy H hk;split at hk
  ·rename_i cells
   rw[Zc9,YU] at hk;have hI1:=hI.weaken (cells':=cells.set off .bot) he (λ_ _ _ _ _ hd=>ZiZ hd off);obtain ⟨H',h1,h2,h3,h4⟩:=ZeK q hI1 (hL.Zh6 he) hk;exact ⟨H',h1,h2,h3,(Boxed.Zh6 he).trans h4⟩
  ·exact hk.elim
 | .cello id off e0::q,H,hI,gs,hL,K,hk=>by
  simp only[ZjE] at hk;obtain ⟨e,he,hk⟩:=Yy H hk;split at hk
  ·rename_i cells
   rw[Zc9,YU] at hk;have hI1:=hI.weaken (cells':=cells.set off .bot) he (λ_ _ _ _ _ hd=>ZiZ hd off);obtain ⟨H',h1,h2,h3,h4⟩:=ZeK q hI1 (hL.Zh6 he) hk;exact ⟨H',h1,h2,h3,(Boxed.Zh6 he).trans h4⟩
  ·exact hk.elim
theorem Zc6:∀ (ls:List Loc) {W:List Nat} {K:List Nat->Prop},Zgp ls W K->∃ W',K W'
 | [],W,K,h=>⟨W,h⟩
 | .reg r _::q,W,K,h=>by obtain ⟨W',h⟩:=Zc6 q h;exact ⟨_,h⟩
 | .cell _ _ _::q,W,K,h=>Zc6 q h
 | .cello _ _ _::q,W,K,h=>Zc6 q h
 | .ent _ _ _::q,W,K,h=>Zc6 q h
 | .entm _ _ _::q,W,K,h=>Zc6 q h
 | .splt _ _ _::q,W,K,h=>Zc6 q h
theorem Zly {P:Program} {Δ:Tab} (hΔ:Δ.ok P) {Γ:Gam} (hΓ:Γ.ok P) (A:Ann) (hm:P.follows .mixedOrders=true) {B:Base}:∀ (c:Code) (cur:Nat) (Q:Exit->List SV->List Entry->Prop) {regs:List SV} {H:List Entry} (_:sx Δ Γ A c cur Q regs H)
  {a:Act} {w:World} (_:Conc B regs H a w) (R:Exit->Act->World->Prop) (_:∀ e regs' H' a' w',Q e regs' H'->Conc B regs' H' a' w'->R e a' w'),c.wp P R a w
 | .skip,_,Q,regs,H,h,a,w,hc,R,hR=>wp_skip (hR _ _ _ _ _ h hc)
 | .label _,_,Q,regs,H,h,a,w,hc,R,hR=>wp_label (hR _ _ _ _ _ h hc)
 | .ret,_,Q,regs,H,h,a,w,hc,R,hR=>wp_ret (hR _ _ _ _ _ h hc)
 | .exit id,_,Q,regs,H,h,a,w,hc,R,hR=>wp_exit (hR _ _ _ _ _ h hc)
 | .region id ops draw,_,Q,regs,H,h,a,w,hc,R,hR=>by
  simp only[sx] at h;split at h
  ·exact h.no.elim
  split at h
  ·exact wp_region_list (Zsn hΔ hΓ ops ops.toList hc h (λregs' H' a' w' hq hc'=>hR _ _ _ _ _ hq hc'))
  ·obtain ⟨M,p,h⟩:=ZpO _ h
   obtain ⟨hb,h⟩:=h;simp only[Bool.and_eq_true,beq_iff_eq] at hb;exact ZtE hΔ hΓ hm hb.1.2 hb.1.1 hb.2 hc h (λregs' H' a' w' hq hc'=>hR _ _ _ _ _ hq hc')
 | .seq x y,cur,Q,regs,H,h,a,w,hc,R,hR=>by
  simp only[sx] at h;refine wp_seq (Zly hΔ hΓ A hm x cur _ h hc _ ?_);intro e regs' H' a' w' hq hc';cases e with
  | normal=>exact Zly hΔ hΓ A hm y cur Q hq hc' R hR
  | _=>exact hR _ _ _ _ _ hq hc'
 | .cond c x y,cur,Q,regs,H,h,a,w,hc,R,hR=>by
  simp only[sx] at h;obtain ⟨E,hw,hI,hd,hdef⟩:=hc;obtain ⟨s,hs,h⟩:=Yb hd h;split at h
  ·simp only[den] at hs
   exact wp_cond_true hs (Zly hΔ hΓ A hm x cur Q h ⟨E,hw,hI,hd,hdef⟩ R hR)
  ·simp only[den] at hs
   exact wp_cond_false hs (Zly hΔ hΓ A hm y cur Q h ⟨E,hw,hI,hd,hdef⟩ R hR)
  ·simp only[den] at hs
   exact wp_cond_split hs (λe=>Zly hΔ hΓ A hm x cur Q (h.1 e) ⟨E,hw,hI,hd,hdef⟩ R hR) (λe=>Zly hΔ hΓ A hm y cur Q (h.2 e) ⟨E,hw,hI,hd,hdef⟩ R hR)
  ·exact h.elim
 | .block id c,cur,Q,regs,H,h,a,w,hc,R,hR=>by
  simp only[sx] at h;refine wp_block (Zly hΔ hΓ A hm c id _ h hc _ ?_);intro e regs' H' a' w' hq hc';cases e with
  | exit id' =>
   simp only at hq;simp only[Exit.inBlock];split at hq
   ·rename_i e;rw[if_pos e];exact hR _ _ _ _ _ hq hc'
   ·rename_i e;rw[if_neg e];exact hR _ _ _ _ _ hq hc'
  | _=>exact hR _ _ _ _ _ hq hc'
 | .loop c,cur,Q,regs,H,h,a,w,hc,R,hR=>by
  simp only[sx] at h;obtain ⟨l0,h⟩:=ZpN A.loops h;obtain ⟨ls,h⟩:=Zwi h;obtain ⟨E,hw,hI,hd,hdef⟩:=hc;obtain ⟨E0,H0,v0,g0,hw0,hid0,hI0,hle0,h,hl0,hL0,hb0⟩:=Zd8 ls hI hd [] (Loose.none _ _ _) h;rw[List.append_nil] at hL0;obtain ⟨W,h⟩:=Zc6 ls h;obtain ⟨regs0,hd0,h⟩:=ZmJ W regs _ (ZE hle0 _ _ hd) h;obtain ⟨H1,hI1,hL1,h,hbox1⟩:=ZeK ls hI0 hL0 h;rw[Zax,Nat.zero_add] at h;obtain ⟨I,μ,hI0v,hround⟩:=h;have hl1:=JE rfl (λ_ h=>h) (λ_ _ h=>h) hbox1 ls v0 g0 hl0
  let Q':Zol ls->Exit->List SV->List Entry->Prop:=λv e r h=>match e with
    | .normal=>Zfi ls r h λv' H2=>ZqM W r λr1=>ZjE ls H2 λH3=>Zlz H3 H1.length λH4=>(r1=regs0/\H4=H1)/\I v'/\μ v'<μ v
    | e=>Q e r h
  let J:Nat->Act->World->Prop:=λn a w=>∃ v rh Hh,I v/\μ v=n/\Conc B rh Hh a w/\sx Δ Γ A c cur (Q' v) rh Hh
  have start:J (μ v0) a w:=by
   obtain ⟨E',Hh,rh,hw',hI',hd',hk⟩:=ZfD ls v0 hI1 hd0 g0 hl1 hL1 (hround v0 hI0v);exact ⟨v0,rh,Hh,hI0v,rfl,⟨E',by rw[hw',hw0,hw],hI',hd',hdef⟩,hk⟩
  have rng:ZbH H1.length regs0:=by have:=VT _ _ hd0;rwa [hI1.len] at this
  have erng:∀ e∈H1,Zow H1.length e:=by
   intro e he;obtain ⟨i,hi⟩:=List.mem_iff_getElem?.1 he;have:=Zov (hI1.ent i e hi)
   rwa [hI1.len] at this
  refine Ztd J ?_ start;rintro n a1 w1 ⟨v,rh,Hh,hIv,hμ,hc1,hsx⟩;subst hμ;refine Zly hΔ hΓ A hm c cur (Q' v) hsx hc1 _ ?_;intro e r' H' a' w' hq hc';cases e with
  | normal =>
   obtain ⟨E2,hw2,hI2,hd2,hdef2⟩:=hc';obtain ⟨E3,H3,v',g3,hw3,hid3,hI3,hle3,hq,hl3,hL3,hb3⟩:=Zd8 ls hI2 hd2 [] (Loose.none _ _ _) hq;rw[List.append_nil] at hL3;obtain ⟨r1,hd3,hq⟩:=ZmJ W r' _ (ZE hle3 _ _ hd2) hq;obtain ⟨H4,hI4,hL4,hq,hbox4⟩:=ZeK ls hI3 hL3 hq;rw[ZfT] at hq;obtain ⟨⟨hr1,hH4⟩,hIv',hlt⟩:=hq;have hpin:B.pin.length<=H1.length:=by
    rcases Nat.eq_zero_or_pos B.pin.length with h0 | h0
    ·omega
    ·have hlast:B.pin[B.pin.length-1]?=some (B.pin[B.pin.length-1]'(by omega)):=List.getElem?_eq_getElem _
     have:=(List.getElem?_eq_some_iff.1 (hI1.pin _ _ hlast)).1;rw[hI1.len] at this;omega
   have hI5:=hI4.trunc H1.length hpin (by rw[hH4];exact erng);rw[hH4] at hI5;have hd5:=JZ (n:=H1.length) _ _ (by rw[hr1];exact rng) hd3;rw[hr1] at hd5;have hl4:=JE rfl (λ_ h=>h) (λ_ _ h=>h) hbox4 ls v' g3 hl3;obtain ⟨p1,p2,p3⟩:=Zbl ls v0 g0 hl1;have hl5:Q7 B ⟨E3.S,E3.w,E3.ids.take H1.length⟩ H1 _ ls v' g3:=VB (E:=E3) (E':=⟨E3.S,E3.w,E3.ids.take H1.length⟩) (H':=H1) rfl (λ_ h=>h) (λi u hi hu=>by
    show (E3.ids.take H1.length)[i]?=some u;rw[List.getElem?_take,if_pos hi];exact hu) (λi c hi hlt=>by
     rw[<-hH4,List.getElem?_take,if_pos hlt];exact ⟨c,hi⟩) (λi c hi=>by
     rw[<-hH4,List.getElem?_take] at hi;split at hi
     ·exact ⟨c,hi⟩
     ·cases hi) ls v' g3 p1 p2 p3 hl4
   have hL5:Loose B ⟨E3.S,E3.w,E3.ids.take H1.length⟩ H1 g3:=⟨hL4.nodup,hL4.free,λg hg j ej vj hj hlv hv hb=>by
    have hj4:H4[j]?=some ej:=by
     rw[<-hH4,List.getElem?_take] at hj;split at hj
     ·exact hj
     ·cases hj
    have hv4:E3.ids[j]?=some vj:=by
     have hv':(E3.ids.take H1.length)[j]?=some vj:=hv;rw[List.getElem?_take] at hv';split at hv'
     ·exact hv'
     ·cases hv'
    exact hL4.apart g hg j ej vj hj4 hlv hv4 hb⟩
   obtain ⟨E',Hh',rh',hw',hI',hd',hk⟩:=ZfD ls v' hI5 hd5 g3 hl5 hL5 (hround v' hIv');exact ⟨μ v',hlt,v',rh',Hh',hIv',rfl,⟨E',by rw[hw'];show E3.w=w';rw[hw3,hw2],hI',hd',hdef2⟩,hk⟩
  | _=>exact hR _ _ _ _ _ hq hc'
 | .rangeFunc _ _ _ _,_,Q,regs,H,h,a,w,hc,R,hR=>by simp only[sx] at h
 | .scope _,_,Q,regs,H,h,a,w,hc,R,hR=>by simp only[sx] at h
 | .goto _,_,Q,regs,H,h,a,w,hc,R,hR=>by simp only[sx] at h
 | .refuse _,_,Q,regs,H,h,a,w,hc,R,hR=>by simp only[sx] at h
end Go.Sx
