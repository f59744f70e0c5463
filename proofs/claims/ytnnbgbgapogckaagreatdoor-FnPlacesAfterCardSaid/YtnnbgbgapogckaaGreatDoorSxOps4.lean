/-
  Addresses of fields and elements; stores; new variables.
-/
import Derived.Test.YtnnbgbgapogckaaGreatDoorSxOps3
namespace Go.Sx
set_option linter.unusedVariables false
set_option linter.unusedSimpArgs false
section
variable {P:Program}
def Zms:List (Nat×Nat×Bool)→Nat→(Nat→Nat→Bool→Prop)→Prop
 | [],_,_=>False
 | (o,s,g)::_,0,K=>K o s g
 | _::r,n+1,K=>Zms r n K
theorem Zfw:∀ (l:List (Nat×Nat×Bool)) {n:Nat} {K:Nat→Nat→Bool→Prop},Zms l n K→∃ o s g,l[n]?=some (o,s,g)∧K o s g
 | [],_,_,h=>h.elim
 | (o,s,g)::_,0,K,h=>⟨o,s,g,rfl,h⟩
 | _::r,n+1,K,h=>by simpa using Zfw r (n:=n) h
theorem Q6.field {T:TypeId} {ti:TI} (h:Q6 P T ti) (hk:ti.kind=.st) {f o s:Nat} {g:Bool} (hf:ti.flds[f]?=some (o,s,g)) :
  ∃ fs,P.underlying T=some (.struct fs)∧∃ fld i d,fs[f]?=some fld∧fld.offset=o∧P.info? fld.type=some i∧i.size=s∧P.underlying fld.type=some d∧Jt d=g:=by
 obtain ⟨d0,hd,hk'⟩:=h.get
 rw [hk] at hk'
 obtain ⟨fs,rfl⟩:∃ fs,d0=.struct fs:=by cases d0<;>simp [Zio] at hk';exact ⟨_,rfl⟩
 have:=h.flds
 rw [hd] at this
 have h2:=congrArg (·[f]?) this
 simp only [List.getElem?_map,hf,Option.map_some,Array.getElem?_toList] at h2
 cases hff:fs[f]? with
 | none=>simp [hff] at h2
 | some fld =>
  simp only [hff,Option.map_some,Option.some.injEq,Prod.mk.injEq] at h2
  obtain ⟨h3,h4,h5⟩:=h2
  cases hi:P.info? fld.type with
  | none=>simp [hi] at h4
  | some i =>
   cases hu:P.underlying fld.type with
   | none=>simp [hu] at h5
   | some d=>exact ⟨fs,hd,fld,i,d,hff,h3,hi,by simpa [hi] using h4,hu,by simpa [hu] using h5⟩
def Zb5 (ti:TI) (s:SV) (f:Nat) (K:SV→Prop):Prop :=
 if ti.kind.Znj=true then Zms ti.flds f fun o sz _=>if sz=0 then False else
  match s with
  | .ptr id off=>K (.ptr id (off+o))
  | .oep id es i off=>K (.oep id es i (off+o))
  | .fptr cs=>Zaq cs o fun cs'=>K (.fptr cs')
  | _=>False
 else False
theorem Zfb {E:Env} {T:TypeId} {ti:TI} (h:Q6 P T ti) {s:SV} {v:Value} (hs:den E s v) {f:Nat} {K:SV→Prop} (hk:Zb5 ti s f K) :
  ∃ u r,ZdX P (Instr.fieldAt T v f) u∧den E r u∧K r:=by
 unfold Zb5 at hk
 split at hk
 ·rename_i hst
  obtain ⟨o,sz,g,hf,hk⟩:=Zfw _ hk
  split at hk
  ·exact hk.elim
  ·rename_i hsz
   have hd:ti.kind=.st:=by cases hdd:ti.kind<;>simp [TK.Znj,hdd] at hst;rfl
   obtain ⟨fs,hu,fld,i,d,hfl,ho,hi,hs1,_,_⟩:=h.field hd hf
   have key:∀ (p:Addr),v=.pointer (some p)→ZdX P (Instr.fieldAt T v f) (.pointer (some (p.add o))):=by
    intro p hv w'
    subst hv
    have hne:¬i.size=0:=by rw [hs1];exact hsz
    simp only [Instr.fieldAt,Sem.run_bind,run_underlying hu,Result.andThen_ok,hfl,Instr.sureAddr,Sem.run_pure,fieldPlace,run_sizeOf hi,hne,if_false,ho]
   split at hk
   ·rename_i id off
    simp only [den] at hs
    obtain ⟨b,h1,rfl⟩:=hs
    refine ⟨_,_,key _ rfl,?_,hk⟩
    simp only [den]
    exact ⟨b,h1,by rw [add_eq]⟩
   ·rename_i id es i' off
    simp only [den] at hs
    obtain ⟨b,bo,n,c,h1,rfl⟩:=hs
    refine ⟨_,_,key _ rfl,?_,hk⟩
    simp only [den]
    exact ⟨b,bo,n,c,h1,by rw [add_eq,Nat.add_assoc,Nat.add_assoc]⟩
   ·rename_i cs
    simp only [den] at hs
    obtain ⟨p,vs,rfl,hp,hS,hvs,hds⟩:=hs
    rw [QL] at hk
    refine ⟨_,_,key _ rfl,?_,hk⟩
    simp only [den]
    refine ⟨p.add o,vs.drop o,rfl,Ze6 _ _ hp,by rw [add_block];exact hS,fun j u hu=>?_,Xl _ _ hds o⟩
    rw [add_add _ _ _ hp]
    exact hvs _ u (by simpa using hu)
   ·exact hk.elim
 ·exact hk.elim
def Zi9 (ti:TI) (s:SV) (f:Nat) (K:SV→Prop):Prop :=
 if ti.kind.Znj=true then Zms ti.flds f fun o sz g =>
  match s with
  | .agg cs=>Zaq cs o fun cs'=>if g=true then Zex cs' sz fun l=>if l.length=sz then K (.agg l) else False
   else match cs' with
    | c::_=>K c
    | []=>False
  | _=>False
 else False
theorem Zja {E:Env} {T:TypeId} {ti:TI} (h:Q6 P T ti) {s:SV} {v:Value} (hs:den E s v) {f:Nat} {K:SV→Prop} (hk:Zi9 ti s f K) :
  ∃ u r,ZdX P (Instr.field T v f) u∧den E r u∧K r:=by
 unfold Zi9 at hk
 split at hk
 ·rename_i hst
  obtain ⟨o,sz,g,hf,hk⟩:=Zfw _ hk
  have hd:ti.kind=.st:=by cases hdd:ti.kind<;>simp [TK.Znj,hdd] at hst;rfl
  obtain ⟨fs,hu,fld,i,d,hfl,ho,hi,hs1,hud,hag⟩:=h.field hd hf
  split at hk
  ·rename_i cs
   simp only [den] at hs
   obtain ⟨vs,rfl,hds⟩:=hs
   rw [QL] at hk
   have hds':=Xl _ _ hds o
   have hpart:∀ w,(part fld.type vs.toArray fld.offset).run P w=(isAgg fld.type >>= fun b=>if b then (do pure (.agg (vs.toArray.extract o (o+(←sizeOf fld.type))))) else match vs.toArray[o]? with
     | some v=>pure v
     | none=>stuck "part: no such cell").run P w:=by intro w;rw [part,ho];rfl
   have hagg:∀ w,(isAgg fld.type).run P w=.ok g w:=by
    intro w
    unfold isAgg
    rw [Sem.run_bind,run_underlying hud]
    simp only [Result.andThen_ok,←hag]
    cases d<;>rfl
   have hrun:∀ w,(Instr.field T (.agg vs.toArray) f).run P w=(part fld.type vs.toArray fld.offset).run P w:=by
    intro w
    simp only [Instr.field,Sem.run_bind,run_underlying hu,Result.andThen_ok,hfl,asAgg,Sem.run_pure]
   have hfin:∀ w,(Instr.field T (.agg vs.toArray) f).run P w=(if g then (do pure (.agg (vs.toArray.extract o (o+(←sizeOf fld.type))))) else match vs.toArray[o]? with
     | some v=>pure v
     | none=>stuck "part: no such cell" : Sem Value).run P w:=by
    intro w;rw [hrun,hpart,Sem.run_bind,hagg,Result.andThen_ok]
   split at hk
   ·rename_i hg
    rw [J7] at hk
    split at hk
    ·rename_i hl
     have hds2:=Jb _ _ hds' sz
     refine ⟨.agg ((vs.drop o).take sz).toArray,_,?_,by simp only [den];exact ⟨_,rfl,hds2⟩,hk⟩
     intro w'
     rw [hfin,if_pos hg,Sem.run_bind,run_sizeOf hi,Result.andThen_ok,hs1]
     simp [List.extract_eq_take_drop]
    ·exact hk.elim
   ·rename_i hg
    split at hk
    ·rename_i c r heq
     rw [heq] at hds'
     cases hvd:vs.drop o with
     | nil=>rw [hvd] at hds';simp [Zy] at hds'
     | cons v0 vr =>
      rw [hvd] at hds'
      simp only [Zy] at hds'
      refine ⟨v0,c,?_,hds'.1,hk⟩
      have hv0:vs[o]?=some v0:=by
       have:=congrArg (·[0]?) hvd
       simpa using this
      intro w'
      rw [hfin,if_neg hg]
      simp [hv0]
    ·exact hk.elim
  ·exact hk.elim
 ·exact hk.elim
def Zb2:Operand→Option Nat
 | .const (.int _ n)=>match n with
  | .ofNat m=>some m
  | _=>none
 | _=>none
def Zha (id off es:Nat):Nat→Nat→Int→(SV→Prop)→Prop
 | 0,_,_,_=>True
 | n+1,j,i,K=>(i=(j:Int)→K (.ptr id (off+j*es)))∧Zha id off es n (j+1) i K
theorem ZeU (id off es:Nat):∀ (n j:Nat) (i:Int) (K:SV→Prop),Zha id off es n j i K→(j:Int)≤i→i<(j+n:Nat)→K (.ptr id (off+i.toNat*es))
 | 0,j,i,K,_,h1,h2=>by omega
 | n+1,j,i,K,h,h1,h2=>by
  by_cases e:i=(j:Int)
  ·have:=h.1 e;rw [e,Int.toNat_natCast];exact this
  ·exact ZeU id off es n (j+1) i K h.2 (by omega) (by omega)
def ZaM (ti:TI) (s si:SV) (ix:Operand) (H:List Entry) (K:SV→Prop):Prop :=
 match si with
 | .int _ i=>match ti.kind with
  | .sl=>match s with
   | .sl t d=>if t.size=ti.esize then ZaS d i fun x=>YK t x fun cells=>K (.fptr cells) else False
   | .own id=>Jk H id fun e=>match e with
    | .arr _ t d=>if t.size=ti.esize then ZaS d i fun _=>K (.oep id t.size i 0) else False
    | .frz t d=>if t.size=ti.esize then ZaS d i fun x=>YK t x fun cells=>K (.fptr cells) else False
    | .darr _ e d _=>if e.ty.size=ti.esize then ZaS d i fun _=>K (.oep id e.ty.size i 0) else False
    | .hole _ e d _ _ _=>if e.ty.size=ti.esize then ZaS d i fun _=>K (.oep id e.ty.size i 0) else False
    | .spl _ e d _ _=>if e.ty.size=ti.esize then ZaS d i fun _=>K (.oep id e.ty.size i 0) else False
    | .hsp _ e d _ _ _=>if e.ty.size=ti.esize then ZaS d i fun _=>K (.oep id e.ty.size i 0) else False
    | _=>False
   | _=>False
  | .arr n=>match s with
   | .ptr id off=>match Zb2 ix with
    | some j=>if j<n then K (.ptr id (off+j*ti.esize)) else False
    | none=>0≤i∧i<(n:Int)∧Zha id off ti.esize n 0 i K
   | _=>False
  | _=>False
 | _=>False
theorem run_indexAt {T e:TypeId} {i:TypeInfo} (hu:P.underlying T=some (.slice e)) (hi:P.info? e=some i) (w:World) (p:Addr) (len cap:Nat) (k:IntKind) (n:Int) (h0:0≤n) (h1:n<(len:Int)) :
  (Instr.indexAt T (.slice (some p) len cap) (.int k n)).run P w=.ok (.pointer (some (p.add (n.toNat*i.size)))) w:=by
 have hc:(0≤n∧n<(len:Int)):=⟨h0,h1⟩
 simp [Instr.indexAt,asIntOf,run_underlying hu,hc,run_sizeOf hi]
theorem ZdF {T e:TypeId} {m:Nat} {i:TypeInfo} (hu:P.underlying T=some (.array m e)) (hi:P.info? e=some i) (w:World) (p:Addr) (k:IntKind) (n:Int) (h0:0≤n) (h1:n<(m:Int)) :
  (Instr.indexAt T (.pointer (some p)) (.int k n)).run P w=.ok (.pointer (some (p.add (n.toNat*i.size)))) w:=by
 have hc:(0≤n∧n<(m:Int)):=⟨h0,h1⟩
 simp [Instr.indexAt,asIntOf,run_underlying hu,hc,run_sizeOf hi,Instr.sureAddr]
theorem ZgO {E:Env} {t:Ty} {d:List t.den} {v:Value} (h:rep E.S E.w (.sl t) d [v]) {i:Nat} {x:t.den} (hx:d[i]?=some x) :
  ∃ p cap vs,v=.slice (some p) d.length cap∧p.spot=none∧E.S p.block∧rep E.S E.w t x vs∧∀ j u,vs[j]?=some u→E.w.cell? ((p.add (i*t.size)).add j)=some u:=by
 obtain ⟨a,cap,e1,_,_,h3⟩:=h
 simp at e1
 rcases h3 with h3 | ⟨p,xs,rfl,hp,hS,hc,h3⟩
 ·subst h3;simp at hx
 ·obtain ⟨vs,hr,hxs⟩:=JD (fun d vs=>Z4 t d vs) _ _ h3 _ x hx
  refine ⟨p,cap,vs,e1,hp,hS,hr,fun j u hu=>?_⟩
  rw [add_add _ _ _ hp]
  exact hc _ u (hxs _ _ hu)
theorem JQ {B:Base} {E:Env} {H:List Entry} (hI:Inv B E H) {T:TypeId} {ti:TI} (h:Q6 P T ti) {s si:SV} {v vi:Value} (hs:den E s v) (hsi:den E si vi) {ix:Operand}
  {K:SV→Prop} (hk:ZaM ti s si ix H K) (hix:∀ j,Zb2 ix=some j→∀ k i,si=.int k i→i=(j:Int)) :
  ∃ u r,ZdX P (Instr.indexAt T v vi) u∧den E r u∧K r:=by
 unfold ZaM at hk
 split at hk
 ·rename_i k i
  simp only [den] at hsi;subst hsi
  split at hk
  ·rename_i hd
   obtain ⟨hu,_,inf,hi,hsz,_,_⟩:=h.slice hd
   have frozen:∀ (t:Ty) (d:List t.den),t.size=ti.esize→rep E.S E.w (.sl t) d [v]→ZaS d i (fun x=>YK t x fun cells=>K (.fptr cells))→
     ∃ u r,ZdX P (Instr.indexAt T v (.int k i)) u∧den E r u∧K r:=by
    intro t d ht hr ⟨h0,h1,h2⟩
    obtain ⟨x,hx⟩:∃ x,d[i.toNat]?=some x:=⟨_,List.getElem?_eq_getElem (by omega)⟩
    have h2:=h2 x hx
    simp only [Z6] at h2
    obtain ⟨p,cap,vs,rfl,hp,hS,hrx,hc⟩:=ZgO hr hx
    refine ⟨_,_,fun w=>run_indexAt hu hi w p _ cap k i h0 h1,?_,h2⟩
    simp only [den]
    rw [hsz,←ht]
    exact ⟨_,vs,rfl,Ze6 _ _ hp,by rw [add_block];exact hS,hc,ZV t x vs hrx⟩
   split at hk
   ·rename_i t d
    split at hk
    ·rename_i ht
     exact frozen t d ht (by simpa only [den] using hs) hk
    ·exact hk.elim
   ·rename_i id
    obtain ⟨en,he,hk⟩:=ZK H hk
    simp only [den] at hs
    split at hk
    ·rename_i et t d
     split at hk
     ·rename_i ht
      obtain ⟨h0,h1,hk⟩:=hk
      have hk:=hk _ (List.getElem?_eq_getElem (show i.toNat<d.length by omega))
      obtain ⟨v',xs,e1,h2,h3⟩:=hI.ent id _ he
      have:=hs.1.symm.trans e1;simp at this;subst this
      rcases h2.2 with ⟨rfl,hn⟩ | ⟨g,cap,cur,o,rfl,_,hh,hc,_⟩
      ·omega
      ·refine ⟨_,_,fun w=>run_indexAt hu hi w _ _ cap k i h0 h1,?_,hk⟩
       simp only [den]
       exact ⟨g,o,_,cap,e1,by rw [add_eq,hsz,ht];simp⟩
     ·exact hk.elim
    ·rename_i t d
     split at hk
     ·rename_i ht
      obtain ⟨v',e1,h2⟩:=hI.ent id _ he
      have:=hs.1.symm.trans e1;simp at this;subst this
      exact frozen t d ht h2 hk
     ·exact hk.elim
    ·rename_i et e d fp
     split at hk
     ·rename_i ht
      obtain ⟨h0,h1,hk⟩:=hk
      have hk:=hk _ (List.getElem?_eq_getElem (show i.toNat<d.length by omega))
      obtain ⟨v',xs,fps,e1,h2,h3⟩:=hI.ent id _ he
      have:=hs.1.symm.trans e1;simp at this;subst this
      rcases h2.2 with ⟨rfl,hn⟩ | ⟨g,cap,cur,o,rfl,_,hh,hc,_⟩
      ·omega
      ·refine ⟨_,_,fun w=>run_indexAt hu hi w _ _ cap k i h0 h1,?_,hk⟩
       simp only [den]
       exact ⟨g,o,_,cap,e1,by rw [add_eq,hsz,ht];simp⟩
     ·exact hk.elim
    ·rename_i et e d j cs fp
     split at hk
     ·rename_i ht
      obtain ⟨h0,h1,hk⟩:=hk
      have hk:=hk _ (List.getElem?_eq_getElem (show i.toNat<d.length by omega))
      obtain ⟨v',xs,x1,vx,x2,f1,f2,e1,h2,h3⟩:=hI.ent id _ he
      have:=hs.1.symm.trans e1;simp at this;subst this
      rcases h2.2 with ⟨rfl,hn⟩ | ⟨g,cap,cur,o,rfl,_,hh,hc,_⟩
      ·omega
      ·refine ⟨_,_,fun w=>run_indexAt hu hi w _ _ cap k i h0 h1,?_,hk⟩
       simp only [den]
       exact ⟨g,o,_,cap,e1,by rw [add_eq,hsz,ht];simp⟩
     ·exact hk.elim
    ·rename_i et e d n fp
     split at hk
     ·rename_i ht
      obtain ⟨h0,h1,hk⟩:=hk
      have hk:=hk _ (List.getElem?_eq_getElem (show i.toNat<d.length by omega))
      obtain ⟨v',e1,⟨xs,x1,x2,f1,h2,h3⟩,_⟩:=hI.ent id _ he
      have:=hs.1.symm.trans e1;simp at this;subst this
      rcases h2.2 with ⟨rfl,hn⟩ | ⟨g,cap,cur,o,rfl,_,hh,hc,_⟩
      ·omega
      ·refine ⟨_,_,fun w=>run_indexAt hu hi w _ _ cap k i h0 h1,?_,hk⟩
       simp only [den]
       exact ⟨g,o,_,cap,e1,by rw [add_eq,hsz,ht];simp⟩
     ·exact hk.elim
    ·rename_i et e d j cs fp
     split at hk
     ·rename_i ht
      obtain ⟨h0,h1,hk⟩:=hk
      have hk:=hk _ (List.getElem?_eq_getElem (show i.toNat<d.length by omega))
      obtain ⟨v',xs,x1,vx,x2,f1,e1,h2,h3⟩:=hI.ent id _ he
      have:=hs.1.symm.trans e1;simp at this;subst this
      rcases h2.2 with ⟨rfl,hn⟩ | ⟨g,cap,cur,o,rfl,_,hh,hc,_⟩
      ·omega
      ·refine ⟨_,_,fun w=>run_indexAt hu hi w _ _ cap k i h0 h1,?_,hk⟩
       simp only [den]
       exact ⟨g,o,_,cap,e1,by rw [add_eq,hsz,ht];simp⟩
     ·exact hk.elim
    ·exact hk.elim
   ·exact hk.elim
  ·rename_i n hd
   obtain ⟨hu,_,inf,hi,hsz,_,_⟩:=h.array hd
   split at hk
   ·rename_i id off
    simp only [den] at hs
    obtain ⟨b,h1,rfl⟩:=hs
    have fin:0≤i→i<(n:Int)→K (.ptr id (off+i.toNat*ti.esize))→∃ u r,ZdX P (Instr.indexAt T (.pointer (some ⟨b,off,none⟩)) (.int k i)) u∧den E r u∧K r:=by
     intro h0 h2 hk
     refine ⟨_,_,fun w=>ZdF hu hi w _ k i h0 h2,?_,hk⟩
     simp only [den]
     exact ⟨b,h1,by rw [add_eq,hsz]⟩
    split at hk
    ·rename_i j hj
     split at hk
     ·rename_i hjn
      have hij:=hix j hj k i rfl
      subst hij
      exact fin (by omega) (by omega) (by simpa using hk)
     ·exact hk.elim
    ·obtain ⟨h0,h2,hk⟩:=hk
     exact fin h0 h2 (ZeU id off ti.esize n 0 i K hk (by omega) (by omega))
   ·exact hk.elim
  ·exact hk.elim
 ·exact hk.elim
end
end Go.Sx
