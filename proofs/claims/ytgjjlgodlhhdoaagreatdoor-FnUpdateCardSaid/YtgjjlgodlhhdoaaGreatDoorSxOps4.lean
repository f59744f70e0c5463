/-
  Addresses of fields and elements; stores; new variables.
-/
import Derived.Test.YtgjjlgodlhhdoaaGreatDoorSxOps3
namespace Go.Sx
set_option linter.unusedVariables false
set_option linter.unusedSimpArgs false
section
variable {P:Program}
def Zwr:List (Nat×Nat×Bool)->Nat->(Nat->Nat->Bool->Prop)->Prop
 | [],_,_=>False
 | (o,s,g)::_,0,K=>K o s g
 | _::r,n+1,K=>Zwr r n K
theorem ZmM:∀ (l:List (Nat×Nat×Bool)) {n:Nat} {K:Nat->Nat->Bool->Prop},Zwr l n K->∃ o s g,l[n]?=some (o,s,g)/\K o s g
 | [],_,_,h=>h.elim
 | (o,s,g)::_,0,K,h=>⟨o,s,g,rfl,h⟩
 | _::r,n+1,K,h=>by simpa using ZmM r (n:=n) h
theorem ZbB.field {T:TypeId} {ti:TI} (h:ZbB P T ti) (hk:ti.kind=.st) {f o s:Nat} {g:Bool} (hf:ti.flds[f]?=some (o,s,g)) :
  ∃ fs,P.underlying T=some (.struct fs)/\∃ fld i d,fs[f]?=some fld/\fld.offset=o/\P.info? fld.type=some i/\i.size=s/\P.underlying fld.type=some d/\ZeW d=g:=by
 obtain ⟨d0,hd,hk'⟩:=h.get;rw[hk] at hk';obtain ⟨fs,rfl⟩:∃ fs,d0=.struct fs:=by cases d0<;>simp[Zq4] at hk';exact ⟨_,rfl⟩
 have:=h.flds;rw[hd] at this;have h2:=congrArg (·[f]?) this;simp only[List.getElem?_map,hf,Option.map_some,Array.getElem?_toList] at h2;cases hff:fs[f]? with
 | none=>simp[hff] at h2
 | some fld =>
  simp only[hff,Option.map_some,Option.some.injEq,Prod.mk.injEq] at h2;obtain ⟨h3,h4,h5⟩:=h2;cases hi:P.info? fld.type with
  | none=>simp[hi] at h4
  | some i =>
   cases hu:P.underlying fld.type with
   | none=>simp[hu] at h5
   | some d=>exact ⟨fs,hd,fld,i,d,hff,h3,hi,by simpa[hi] using h4,hu,by simpa[hu] using h5⟩
def Zim (ti:TI) (s:SV) (f:Nat) (K:SV->Prop):Prop :=
 if ti.kind.ZxI=true then Zwr ti.flds f λo sz _=>if sz=0 then False else
  match s with
  | .ptr id off=>K (.ptr id (off+o))
  | .oep id es i off=>K (.oep id es i (off+o))
  | .fptr cs=>Zgj cs o λcs'=>K (.fptr cs')
  | _=>False
 else False
theorem Zmq {E:Env} {T:TypeId} {ti:TI} (h:ZbB P T ti) {s:SV} {v:Value} (hs:den E s v) {f:Nat} {K:SV->Prop} (hk:Zim ti s f K) :
  ∃ u r,Zlb P (Instr.fieldAt T v f) u/\den E r u/\K r:=by
 unfold Zim at hk;split at hk
 ·rename_i hst
  obtain ⟨o,sz,g,hf,hk⟩:=ZmM _ hk;split at hk
  ·exact hk.elim
  ·rename_i hsz
   have hd:ti.kind=.st:=by cases hdd:ti.kind<;>simp[TK.ZxI,hdd] at hst;rfl
   obtain ⟨fs,hu,fld,i,d,hfl,ho,hi,hs1,_,_⟩:=h.field hd hf;have key:∀ (p:Addr),v=.pointer (some p)->Zlb P (Instr.fieldAt T v f) (.pointer (some (p.add o))):=by
    intro p hv w';subst hv;have hne:¬i.size=0:=by rw[hs1];exact hsz
    simp only[Instr.fieldAt,Sem.run_bind,run_underlying hu,Result.andThen_ok,hfl,Instr.sureAddr,Sem.run_pure,fieldPlace,run_sizeOf hi,hne,if_false,ho]
   split at hk
   ·rename_i id off
    simp only[den] at hs;obtain ⟨b,h1,rfl⟩:=hs;refine ⟨_,_,key _ rfl,?_,hk⟩;simp only[den];exact ⟨b,h1,by rw[add_eq]⟩
   ·rename_i id es i' off
    simp only[den] at hs;obtain ⟨b,bo,n,c,h1,rfl⟩:=hs;refine ⟨_,_,key _ rfl,?_,hk⟩;simp only[den];exact ⟨b,bo,n,c,h1,by rw[add_eq,Nat.add_assoc,Nat.add_assoc]⟩
   ·rename_i cs
    simp only[den] at hs;obtain ⟨p,vs,rfl,hp,hS,hvs,hds⟩:=hs;rw[ZaN] at hk;refine ⟨_,_,key _ rfl,?_,hk⟩;simp only[den];refine ⟨p.add o,vs.drop o,rfl,Zmf _ _ hp,by rw[add_block];exact hS,λj u hu=>?_,Vv _ _ hds o⟩;rw[add_add _ _ _ hp];exact hvs _ u (by simpa using hu)
   ·exact hk.elim
 ·exact hk.elim
def ZrS (ti:TI) (s:SV) (f:Nat) (K:SV->Prop):Prop :=
 if ti.kind.ZxI=true then Zwr ti.flds f λo sz g =>
  match s with
  | .agg cs=>Zgj cs o λcs'=>if g=true then Zlz cs' sz λl=>if l.length=sz then K (.agg l) else False
   else match cs' with
    | c::_=>K c
    | []=>False
  | _=>False
 else False
theorem ZrT {E:Env} {T:TypeId} {ti:TI} (h:ZbB P T ti) {s:SV} {v:Value} (hs:den E s v) {f:Nat} {K:SV->Prop} (hk:ZrS ti s f K) :
  ∃ u r,Zlb P (Instr.field T v f) u/\den E r u/\K r:=by
 unfold ZrS at hk;split at hk
 ·rename_i hst
  obtain ⟨o,sz,g,hf,hk⟩:=ZmM _ hk;have hd:ti.kind=.st:=by cases hdd:ti.kind<;>simp[TK.ZxI,hdd] at hst;rfl
  obtain ⟨fs,hu,fld,i,d,hfl,ho,hi,hs1,hud,hag⟩:=h.field hd hf;split at hk
  ·rename_i cs
   simp only[den] at hs;obtain ⟨vs,rfl,hds⟩:=hs;rw[ZaN] at hk;have hds':=Vv _ _ hds o;have hpart:∀ w,(part fld.type vs.toArray fld.offset).run P w=(isAgg fld.type >>= λb=>if b then (do pure (.agg (vs.toArray.extract o (o+(<-sizeOf fld.type))))) else match vs.toArray[o]? with
     | some v=>pure v
     | none=>stuck "part: no such cell").run P w:=by intro w;rw[part,ho];rfl
   have hagg:∀ w,(isAgg fld.type).run P w=.ok g w:=by
    intro w;unfold isAgg;rw[Sem.run_bind,run_underlying hud];simp only[Result.andThen_ok,<-hag];cases d<;>rfl
   have hrun:∀ w,(Instr.field T (.agg vs.toArray) f).run P w=(part fld.type vs.toArray fld.offset).run P w:=by
    intro w;simp only[Instr.field,Sem.run_bind,run_underlying hu,Result.andThen_ok,hfl,asAgg,Sem.run_pure]
   have hfin:∀ w,(Instr.field T (.agg vs.toArray) f).run P w=(if g then (do pure (.agg (vs.toArray.extract o (o+(<-sizeOf fld.type))))) else match vs.toArray[o]? with
     | some v=>pure v
     | none=>stuck "part: no such cell" : Sem Value).run P w:=by
    intro w;rw[hrun,hpart,Sem.run_bind,hagg,Result.andThen_ok]
   split at hk
   ·rename_i hg
    rw[ZfT] at hk;split at hk
    ·rename_i hl
     have hds2:=Zej _ _ hds' sz;refine ⟨.agg ((vs.drop o).take sz).toArray,_,?_,by simp only[den];exact ⟨_,rfl,hds2⟩,hk⟩;intro w';rw[hfin,if_pos hg,Sem.run_bind,run_sizeOf hi,Result.andThen_ok,hs1];simp[List.extract_eq_take_drop]
    ·exact hk.elim
   ·rename_i hg
    split at hk
    ·rename_i c r heq
     rw[heq] at hds';cases hvd:vs.drop o with
     | nil=>rw[hvd] at hds';simp[ZT] at hds'
     | cons v0 vr =>
      rw[hvd] at hds';simp only[ZT] at hds';refine ⟨v0,c,?_,hds'.1,hk⟩;have hv0:vs[o]?=some v0:=by
       have:=congrArg (·[0]?) hvd;simpa using this
      intro w';rw[hfin,if_neg hg];simp[hv0]
    ·exact hk.elim
  ·exact hk.elim
 ·exact hk.elim
def Zii:Operand->Option Nat
 | .const (.int _ n)=>match n with
  | .ofNat m=>some m
  | _=>none
 | _=>none
def Zo0 (id off es:Nat):Nat->Nat->Int->(SV->Prop)->Prop
 | 0,_,_,_=>True
 | n+1,j,i,K=>(i=(j:Int)->K (.ptr id (off+j*es)))/\Zo0 id off es n (j+1) i K
theorem Zl4 (id off es:Nat):∀ (n j:Nat) (i:Int) (K:SV->Prop),Zo0 id off es n j i K->(j:Int)<=i->i<(j+n:Nat)->K (.ptr id (off+i.toNat*es))
 | 0,j,i,K,_,h1,h2=>by omega
 | n+1,j,i,K,h,h1,h2=>by
  by_cases e:i=(j:Int)
  ·have:=h.1 e;rw[e,Int.toNat_natCast];exact this
  ·exact Zl4 id off es n (j+1) i K h.2 (by omega) (by omega)
def ZgF (ti:TI) (s si:SV) (ix:Operand) (H:List Entry) (K:SV->Prop):Prop :=
 match si with
 | .int _ i=>match ti.kind with
  | .sl=>match s with
   | .sl t d=>if t.size=ti.esize then ZgM d i λx=>Qq t x λcells=>K (.fptr cells) else False
   | .own id=>ZeE H id λe=>match e with
    | .arr _ t d=>if t.size=ti.esize then ZgM d i λ_=>K (.oep id t.size i 0) else False
    | .frz t d=>if t.size=ti.esize then ZgM d i λx=>Qq t x λcells=>K (.fptr cells) else False
    | .darr _ e d _=>if e.ty.size=ti.esize then ZgM d i λ_=>K (.oep id e.ty.size i 0) else False
    | .hole _ e d _ _ _=>if e.ty.size=ti.esize then ZgM d i λ_=>K (.oep id e.ty.size i 0) else False
    | .spl _ e d _ _=>if e.ty.size=ti.esize then ZgM d i λ_=>K (.oep id e.ty.size i 0) else False
    | .hsp _ e d _ _ _=>if e.ty.size=ti.esize then ZgM d i λ_=>K (.oep id e.ty.size i 0) else False
    | _=>False
   | _=>False
  | .arr n=>match s with
   | .ptr id off=>match Zii ix with
    | some j=>if j<n then K (.ptr id (off+j*ti.esize)) else False
    | none=>0<=i/\i<(n:Int)/\Zo0 id off ti.esize n 0 i K
   | _=>False
  | _=>False
 | _=>False
theorem run_indexAt {T e:TypeId} {i:TypeInfo} (hu:P.underlying T=some (.slice e)) (hi:P.info? e=some i) (w:World) (p:Addr) (len cap:Nat) (k:IntKind) (n:Int) (h0:0<=n) (h1:n<(len:Int)) :
  (Instr.indexAt T (.slice (some p) len cap) (.int k n)).run P w=.ok (.pointer (some (p.add (n.toNat*i.size)))) w:=by
 have hc:(0<=n/\n<(len:Int)):=⟨h0,h1⟩;simp[Instr.indexAt,asIntOf,run_underlying hu,hc,run_sizeOf hi]
theorem ZkQ {T e:TypeId} {m:Nat} {i:TypeInfo} (hu:P.underlying T=some (.array m e)) (hi:P.info? e=some i) (w:World) (p:Addr) (k:IntKind) (n:Int) (h0:0<=n) (h1:n<(m:Int)) :
  (Instr.indexAt T (.pointer (some p)) (.int k n)).run P w=.ok (.pointer (some (p.add (n.toNat*i.size)))) w:=by
 have hc:(0<=n/\n<(m:Int)):=⟨h0,h1⟩;simp[Instr.indexAt,asIntOf,run_underlying hu,hc,run_sizeOf hi,Instr.sureAddr]
theorem ZoB {E:Env} {t:Ty} {d:List t.den} {v:Value} (h:rep E.S E.w (.sl t) d [v]) {i:Nat} {x:t.den} (hx:d[i]?=some x) :
  ∃ p cap vs,v=.slice (some p) d.length cap/\p.spot=none/\E.S p.block/\rep E.S E.w t x vs/\∀ j u,vs[j]?=some u->E.w.cell? ((p.add (i*t.size)).add j)=some u:=by
 obtain ⟨a,cap,e1,_,_,h3⟩:=h;simp at e1;rcases h3 with h3 | ⟨p,xs,rfl,hp,hS,hc,h3⟩
 ·subst h3;simp at hx
 ·obtain ⟨vs,hr,hxs⟩:=Zfd (λd vs=>Xj t d vs) _ _ h3 _ x hx
  refine ⟨p,cap,vs,e1,hp,hS,hr,λj u hu=>?_⟩;rw[add_add _ _ _ hp];exact hc _ u (hxs _ _ hu)
theorem Zfy {B:Base} {E:Env} {H:List Entry} (hI:Inv B E H) {T:TypeId} {ti:TI} (h:ZbB P T ti) {s si:SV} {v vi:Value} (hs:den E s v) (hsi:den E si vi) {ix:Operand}
  {K:SV->Prop} (hk:ZgF ti s si ix H K) (hix:∀ j,Zii ix=some j->∀ k i,si=.int k i->i=(j:Int)) :
  ∃ u r,Zlb P (Instr.indexAt T v vi) u/\den E r u/\K r:=by
 unfold ZgF at hk;split at hk
 ·rename_i k i
  simp only[den] at hsi;subst hsi;split at hk
  ·rename_i hd
   obtain ⟨hu,_,inf,hi,hsz,_,_⟩:=h.slice hd;have frozen:∀ (t:Ty) (d:List t.den),t.size=ti.esize->rep E.S E.w (.sl t) d [v]->ZgM d i (λx=>Qq t x λcells=>K (.fptr cells))->
     ∃ u r,Zlb P (Instr.indexAt T v (.int k i)) u/\den E r u/\K r:=by
    intro t d ht hr ⟨h0,h1,h2⟩;obtain ⟨x,hx⟩:∃ x,d[i.toNat]?=some x:=⟨_,List.getElem?_eq_getElem (by omega)⟩;have h2:=h2 x hx;simp only[Xr] at h2;obtain ⟨p,cap,vs,rfl,hp,hS,hrx,hc⟩:=ZoB hr hx;refine ⟨_,_,λw=>run_indexAt hu hi w p _ cap k i h0 h1,?_,h2⟩;simp only[den];rw[hsz,<-ht];exact ⟨_,vs,rfl,Zmf _ _ hp,by rw[add_block];exact hS,hc,Y0 t x vs hrx⟩
   split at hk
   ·rename_i t d
    split at hk
    ·rename_i ht
     exact frozen t d ht (by simpa only[den] using hs) hk
    ·exact hk.elim
   ·rename_i id
    obtain ⟨en,he,hk⟩:=Yy H hk;simp only[den] at hs;split at hk
    ·rename_i et t d
     split at hk
     ·rename_i ht
      obtain ⟨h0,h1,hk⟩:=hk;have hk:=hk _ (List.getElem?_eq_getElem (show i.toNat<d.length by omega));obtain ⟨v',xs,e1,h2,h3⟩:=hI.ent id _ he;have:=hs.1.symm.trans e1;simp at this;subst this;rcases h2.2 with ⟨rfl,hn⟩ | ⟨g,cap,cur,o,rfl,_,hh,hc,_⟩
      ·omega
      ·refine ⟨_,_,λw=>run_indexAt hu hi w _ _ cap k i h0 h1,?_,hk⟩
       simp only[den];exact ⟨g,o,_,cap,e1,by rw[add_eq,hsz,ht];simp⟩
     ·exact hk.elim
    ·rename_i t d
     split at hk
     ·rename_i ht
      obtain ⟨v',e1,h2⟩:=hI.ent id _ he;have:=hs.1.symm.trans e1;simp at this;subst this;exact frozen t d ht h2 hk
     ·exact hk.elim
    ·rename_i et e d fp
     split at hk
     ·rename_i ht
      obtain ⟨h0,h1,hk⟩:=hk;have hk:=hk _ (List.getElem?_eq_getElem (show i.toNat<d.length by omega));obtain ⟨v',xs,fps,e1,h2,h3⟩:=hI.ent id _ he;have:=hs.1.symm.trans e1;simp at this;subst this;rcases h2.2 with ⟨rfl,hn⟩ | ⟨g,cap,cur,o,rfl,_,hh,hc,_⟩
      ·omega
      ·refine ⟨_,_,λw=>run_indexAt hu hi w _ _ cap k i h0 h1,?_,hk⟩
       simp only[den];exact ⟨g,o,_,cap,e1,by rw[add_eq,hsz,ht];simp⟩
     ·exact hk.elim
    ·rename_i et e d j cs fp
     split at hk
     ·rename_i ht
      obtain ⟨h0,h1,hk⟩:=hk;have hk:=hk _ (List.getElem?_eq_getElem (show i.toNat<d.length by omega));obtain ⟨v',xs,x1,vx,x2,f1,f2,e1,h2,h3⟩:=hI.ent id _ he;have:=hs.1.symm.trans e1;simp at this;subst this;rcases h2.2 with ⟨rfl,hn⟩ | ⟨g,cap,cur,o,rfl,_,hh,hc,_⟩
      ·omega
      ·refine ⟨_,_,λw=>run_indexAt hu hi w _ _ cap k i h0 h1,?_,hk⟩
       simp only[den];exact ⟨g,o,_,cap,e1,by rw[add_eq,hsz,ht];simp⟩
     ·exact hk.elim
    ·rename_i et e d n fp
     split at hk
     ·rename_i ht
      obtain ⟨h0,h1,hk⟩:=hk;have hk:=hk _ (List.getElem?_eq_getElem (show i.toNat<d.length by omega));obtain ⟨v',e1,⟨xs,x1,x2,f1,h2,h3⟩,_⟩:=hI.ent id _ he;have:=hs.1.symm.trans e1;simp at this;subst this;rcases h2.2 with ⟨rfl,hn⟩ | ⟨g,cap,cur,o,rfl,_,hh,hc,_⟩
      ·omega
      ·refine ⟨_,_,λw=>run_indexAt hu hi w _ _ cap k i h0 h1,?_,hk⟩
       simp only[den];exact ⟨g,o,_,cap,e1,by rw[add_eq,hsz,ht];simp⟩
     ·exact hk.elim
    ·rename_i et e d j cs fp
     split at hk
     ·rename_i ht
      obtain ⟨h0,h1,hk⟩:=hk;have hk:=hk _ (List.getElem?_eq_getElem (show i.toNat<d.length by omega));obtain ⟨v',xs,x1,vx,x2,f1,e1,h2,h3⟩:=hI.ent id _ he;have:=hs.1.symm.trans e1;simp at this;subst this;rcases h2.2 with ⟨rfl,hn⟩ | ⟨g,cap,cur,o,rfl,_,hh,hc,_⟩
      ·omega
      ·refine ⟨_,_,λw=>run_indexAt hu hi w _ _ cap k i h0 h1,?_,hk⟩
       simp only[den];exact ⟨g,o,_,cap,e1,by rw[add_eq,hsz,ht];simp⟩
     ·exact hk.elim
    ·exact hk.elim
   ·exact hk.elim
  ·rename_i n hd
   obtain ⟨hu,_,inf,hi,hsz,_,_⟩:=h.array hd;split at hk
   ·rename_i id off
    simp only[den] at hs;obtain ⟨b,h1,rfl⟩:=hs;have fin:0<=i->i<(n:Int)->K (.ptr id (off+i.toNat*ti.esize))->∃ u r,Zlb P (Instr.indexAt T (.pointer (some ⟨b,off,none⟩)) (.int k i)) u/\den E r u/\K r:=by
     intro h0 h2 hk;refine ⟨_,_,λw=>ZkQ hu hi w _ k i h0 h2,?_,hk⟩;simp only[den];exact ⟨b,h1,by rw[add_eq,hsz]⟩
    split at hk
    ·rename_i j hj
     split at hk
     ·rename_i hjn
      have hij:=hix j hj k i rfl;subst hij;exact fin (by omega) (by omega) (by simpa using hk)
     ·exact hk.elim
    ·obtain ⟨h0,h2,hk⟩:=hk
     exact fin h0 h2 (Zl4 id off ti.esize n 0 i K hk (by omega) (by omega))
   ·exact hk.elim
  ·exact hk.elim
 ·exact hk.elim
end
end Go.Sx
