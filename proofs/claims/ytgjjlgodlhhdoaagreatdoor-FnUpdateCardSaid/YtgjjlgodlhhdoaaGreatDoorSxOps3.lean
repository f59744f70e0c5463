/-
  The operations that touch memory.
-/
import Derived.Test.YtgjjlgodlhhdoaaGreatDoorSxOps2
import Derived.Great.BuildSlice
namespace Go.Sx
set_option linter.unusedVariables false
set_option linter.unusedSimpArgs false
section
variable {P:Program}
theorem ZbB.info' {T:TypeId} {ti:TI} (h:ZbB P T ti):∃ i,P.info? T=some i/\i.size=ti.size/\i.bytes=ti.bytes/\i.zero=some ti.zero:=by
 have:=h.info;cases hi:P.info? T with
 | none=>simp[hi] at this
 | some i=>simp[hi] at this;exact ⟨i,rfl,this.1,this.2.1,this.2.2⟩
theorem ZbB.get {T:TypeId} {ti:TI} (h:ZbB P T ti):∃ d,P.underlying T=some d/\Zq4 d=ti.kind:=by
 have:=h.kind;cases hd:P.underlying T with
 | none=>simp[hd] at this
 | some d=>exact ⟨d,rfl,by simpa[hd] using this⟩
theorem Zwl (d:TypeDesc):ZeW d=(Zq4 d).agg:=by cases d<;>rfl
theorem ZbB.slice {T:TypeId} {ti:TI} (h:ZbB P T ti) (hk:ti.kind=.sl) :
  P.underlying T=some (.slice ti.elem)/\(P.underlying ti.elem).map ZeW=some ti.eagg/\∃ i,P.info? ti.elem=some i/\i.size=ti.esize/\i.bytes=ti.ebytes/\i.zero=some ti.ezero:=by
 obtain ⟨d,hd,hk'⟩:=h.get;rw[hk] at hk';obtain ⟨e,rfl⟩:∃ e,d=.slice e:=by cases d<;>simp[Zq4] at hk';exact ⟨_,rfl⟩
 have:=h.elem;rw[hd,hk] at this;simp only[Option.some.injEq,Prod.mk.injEq] at this;obtain ⟨h1,h2,h3⟩:=this;subst h1;refine ⟨hd,h3,?_⟩;cases hi:P.info? ti.elem with
 | none=>simp[hi] at h2
 | some i=>simp[hi] at h2;exact ⟨i,rfl,h2.1,h2.2.1,h2.2.2⟩
theorem ZbB.array {T:TypeId} {ti:TI} (h:ZbB P T ti) {n:Nat} (hk:ti.kind=.arr n) :
  P.underlying T=some (.array n ti.elem)/\(P.underlying ti.elem).map ZeW=some ti.eagg/\∃ i,P.info? ti.elem=some i/\i.size=ti.esize/\i.bytes=ti.ebytes/\i.zero=some ti.ezero:=by
 obtain ⟨d,hd,hk'⟩:=h.get;rw[hk] at hk';obtain ⟨e,rfl⟩:∃ e,d=.array n e:=by cases d<;>simp[Zq4] at hk';subst hk';exact ⟨_,rfl⟩
 have:=h.elem;rw[hd,hk] at this;simp only[Option.some.injEq,Prod.mk.injEq] at this;obtain ⟨h1,h2,h3⟩:=this;subst h1;refine ⟨hd,h3,?_⟩;cases hi:P.info? ti.elem with
 | none=>simp[hi] at h2
 | some i=>simp[hi] at h2;exact ⟨i,rfl,h2.1,h2.2.1,h2.2.2⟩
theorem ZnY {T:TypeId} {ti:TI} (h:ZbB P T ti) (w:World):(isAgg T).run P w=.ok ti.kind.agg w:=by
 obtain ⟨d,hd,hk⟩:=h.get;unfold isAgg;rw[Sem.run_bind,run_underlying hd,<-hk];simp only[Result.andThen_ok];cases d<;>rfl
theorem run_sizeOf {T:TypeId} {i:TypeInfo} (h:P.info? T=some i) (w:World):(sizeOf T).run P w=.ok i.size w:=by
 simp[sizeOf,typeInfo,h]
theorem Zdp {T:TypeId} {ti:TI} (h:ZbB P T ti) (w:World) (p:Addr) (vs:List Value) (hvs:∀ j u,vs[j]?=some u->w.cell? (p.add j)=some u)
  (hl:ti.kind.agg=true->vs.length=ti.size) :
  (ti.kind.agg=true->(loadVar T p).run P w=.ok (.agg vs.toArray) w)/\
  (ti.kind.agg=false->∀ u,vs[0]?=some u->(loadVar T p).run P w=.ok u w):=by
 obtain ⟨i,hi,hs,_⟩:=h.info';constructor
 ·intro ha
  unfold loadVar;rw[Sem.run_bind,ZnY h,ha];simp only[Result.andThen_ok,if_true];rw[Sem.run_bind,run_sizeOf hi,Result.andThen_ok,hs,<-hl ha,Sem.run_bind,run_loadCells_list w p vs hvs];rfl
 ·intro ha u hu
  unfold loadVar;rw[Sem.run_bind,ZnY h,ha];have:=hvs 0 u hu;simp only[Addr.add,if_true] at this;simp[this]
def Qw (ti:TI) (cs:List SV) (K:SV->Prop):Prop :=
 if ti.kind.agg=true then Zlz cs ti.size λl=>if l.length=ti.size then K (.agg l) else False
 else match cs with
  | c::_=>K c
  | []=>False
theorem ZfB {E:Env} {T:TypeId} {ti:TI} (h:ZbB P T ti) (w:World) (p:Addr) {cs:List SV} {K:SV->Prop} (hk:Qw ti cs K)
  (vs:List Value) (hd:ZT E cs vs) (hvs:∀ j u,vs[j]?=some u->w.cell? (p.add j)=some u) :
  ∃ v s,Ztm P w (loadVar T p) v/\den E s v/\K s:=by
 unfold Qw at hk;split at hk
 ·rename_i ha
  rw[ZfT] at hk;split at hk
  ·rename_i hl
   have hd':=Zej cs vs hd ti.size;have hl':=Yl _ _ hd';have h':=λw' (hst:Zmd w w')=>Zdp h w' p (vs.take ti.size) (λj u hu=>hst _ _ (hvs j u (by
    rw[List.getElem?_take] at hu;split at hu
    ·exact hu
    ·cases hu))) (λ_=>by rw[<-hl'];exact hl)
   exact ⟨_,.agg _,λw' hst=>(h' w' hst).1 ha,by simp only[den];exact ⟨_,rfl,hd'⟩,hk⟩
  ·exact hk.elim
 ·rename_i ha
  split at hk
  ·rename_i c r
   match vs,hd with
   | v::vs,hd =>
    simp only[ZT] at hd;have h':=λw' (hst:Zmd w w')=>Zdp h w' p (v::vs) (λj u hu=>hst _ _ (hvs j u hu)) (λe=>absurd e ha);exact ⟨v,c,λw' hst=>(h' w' hst).2 (by simpa using ha) v rfl,hd.1,hk⟩
   | [],hd=>simp[ZT] at hd
  ·exact hk.elim
theorem ZhB {w:World} {b:Nat} {cs:Array Value} {T:TypeId} {fr:Nat×Nat} (hh:w.heap[b]?=some (.cells cs T fr)) (off:Nat) :
  ∀ j u,(cs.toList.drop off)[j]?=some u->w.cell? ((⟨b,off,none⟩:Addr).add j)=some u:=by
 intro j u hu;rw[add_eq,cell_of_row w b (off+j) cs T fr hh];simpa using hu
def ZqG (ti:TI) (s:SV) (H:List Entry) (K:SV->Prop):Prop :=
 match s with
 | .ptr id off=>ZeE H id λe=>match e with
  | .box cells=>Zgj cells off λcs=>Qw ti cs K
  | .fbx cells=>Zgj cells off λcs=>Qw ti cs K
  | _=>False
 | .fptr cs=>Qw ti cs K
 | .oep id sz i off=>ZeE H id λe=>match e with
  | .arr _ t d=>t.size=sz/\ZgM d i λx=>Qq t x λcells=>Zgj cells off λcs=>Qw ti cs K
  | .frz t d=>t.size=sz/\ZgM d i λx=>Qq t x λcells=>Zgj cells off λcs=>Qw ti cs K
  | _=>False
 | _=>False
theorem ZpK {B:Base} {E:Env} {H:List Entry} (hI:Inv B E H) {T:TypeId} {ti:TI} (h:ZbB P T ti) {s:SV} {v:Value} (hs:den E s v) {K:SV->Prop} (hk:ZqG ti s H K) :
  ∃ u r,Ztm P E.w (Instr.loadAt T v) u/\den E r u/\K r:=by
 have key:∀ (p:Addr) (cs:List SV) (vs:List Value),v=.pointer (some p)->Qw ti cs K->ZT E cs vs->(∀ j u,vs[j]?=some u->E.w.cell? (p.add j)=some u)->
   ∃ u r,Ztm P E.w (Instr.loadAt T v) u/\den E r u/\K r:=by
  intro p cs vs hv hk hd hvs;obtain ⟨u,r,h1,h2,h3⟩:=ZfB h E.w p hk vs hd hvs;subst hv;exact ⟨u,r,λw' hst=>by simp only[Instr.loadAt,Instr.sureAddr,pure_bind];exact h1 w' hst,h2,h3⟩
 unfold ZqG at hk;split at hk
 ·rename_i id off
  obtain ⟨e,he,hk⟩:=Yy H hk;split at hk
  ·rename_i cells
   rw[ZaN] at hk;simp only[den] at hs;obtain ⟨b,h1,rfl⟩:=hs;obtain ⟨b',cs,T',h1',h2,h3⟩:=hI.ent id _ he;have:=h1.symm.trans h1';simp at this;subst this;exact key _ _ (cs.toList.drop off) rfl hk (Vv _ _ h3 off) (ZhB h2 off)
  ·rename_i cells
   rw[ZaN] at hk;simp only[den] at hs;obtain ⟨b,h1,rfl⟩:=hs;obtain ⟨b',cs,T',h1',_,h2,h3⟩:=hI.ent id _ he;have:=h1.symm.trans h1';simp at this;subst this;exact key _ _ (cs.toList.drop off) rfl hk (Vv _ _ h3 off) (ZhB h2 off)
  ·exact hk.elim
 ·rename_i cs
  simp only[den] at hs;obtain ⟨p,vs,rfl,hp,_,hvs,hd⟩:=hs;exact key p cs vs rfl hk hd hvs
 ·rename_i id sz i off
  obtain ⟨e,he,hk⟩:=Yy H hk;simp only[den] at hs;obtain ⟨b,bo,n,c,h1,rfl⟩:=hs;split at hk
  ·rename_i et t d
   obtain ⟨hsz,hi0,hlt',hk⟩:=hk;have hlt:i.toNat<d.length:=by omega
   obtain ⟨x,hx⟩:∃ x,d[i.toNat]?=some x:=⟨_,List.getElem?_eq_getElem hlt⟩;have hk:=hk x hx;simp only[Xr,ZaN] at hk;obtain ⟨v',xs,h1',h2,h3⟩:=hI.ent id _ he;have:=h1.symm.trans h1';simp at this;subst this;obtain ⟨vs,hr,hxs⟩:=Zfd (λd vs=>Xj t d vs) _ _ h3 _ x hx;have hc:=h2.Zfp rfl;refine key _ _ (vs.drop off) rfl hk (Vv _ _ (Y0 t x vs hr) off) (λj u hu=>?_);have hu':vs[off+j]?=some u:=by simpa using hu
   have:=hc _ u (hxs _ _ hu');rw[add_eq] at this ⊢;rw[<-hsz];rw[show bo+(i.toNat*t.size+off)+j=bo+(i.toNat*t.size+(off+j)) by omega];exact this
  ·rename_i t d
   obtain ⟨hsz,hi0,hlt',hk⟩:=hk;have hlt:i.toNat<d.length:=by omega
   obtain ⟨x,hx⟩:∃ x,d[i.toNat]?=some x:=⟨_,List.getElem?_eq_getElem hlt⟩;have hk:=hk x hx;simp only[Xr,ZaN] at hk;obtain ⟨v',h1',h2⟩:=hI.ent id _ he;have:=h1.symm.trans h1';simp at this;subst this;obtain ⟨a,cap,e1,_,_,h3⟩:=h2;simp at e1;obtain ⟨e1,e2,e3⟩:=e1;rcases h3 with h3 | ⟨p,xs,e4,hp,_,hc,h3⟩
   ·subst h3;simp at hx
   ·rw[e4] at e1;simp at e1;subst e1
    obtain ⟨vs,hr,hxs⟩:=Zfd (λd vs=>Xj t d vs) _ _ h3 _ x hx;refine key _ _ (vs.drop off) rfl hk (Vv _ _ (Y0 t x vs hr) off) (λj u hu=>?_);have hu':vs[off+j]?=some u:=by simpa using hu
    have:=hc _ u (hxs _ _ hu');rw[add_eq] at this ⊢;rw[<-hsz];rw[show bo+(i.toNat*t.size+off)+j=bo+(i.toNat*t.size+(off+j)) by omega];exact this
  ·exact hk.elim
 ·exact hk.elim
end
end Go.Sx
