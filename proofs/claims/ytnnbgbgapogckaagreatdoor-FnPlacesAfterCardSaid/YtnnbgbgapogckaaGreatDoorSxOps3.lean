/-
  The operations that touch memory.
-/
import Derived.Test.YtnnbgbgapogckaaGreatDoorSxOps2
import Derived.Great.BuildSlice
namespace Go.Sx
set_option linter.unusedVariables false
set_option linter.unusedSimpArgs false
section
variable {P:Program}
theorem Q6.info' {T:TypeId} {ti:TI} (h:Q6 P T ti):∃ i,P.info? T=some i∧i.size=ti.size∧i.bytes=ti.bytes∧i.zero=some ti.zero:=by
 have:=h.info
 cases hi:P.info? T with
 | none=>simp [hi] at this
 | some i=>simp [hi] at this;exact ⟨i,rfl,this.1,this.2.1,this.2.2⟩
theorem Q6.get {T:TypeId} {ti:TI} (h:Q6 P T ti):∃ d,P.underlying T=some d∧Zio d=ti.kind:=by
 have:=h.kind
 cases hd:P.underlying T with
 | none=>simp [hd] at this
 | some d=>exact ⟨d,rfl,by simpa [hd] using this⟩
theorem Zmm (d:TypeDesc):Jt d=(Zio d).agg:=by cases d<;>rfl
theorem Q6.slice {T:TypeId} {ti:TI} (h:Q6 P T ti) (hk:ti.kind=.sl) :
  P.underlying T=some (.slice ti.elem)∧(P.underlying ti.elem).map Jt=some ti.eagg∧∃ i,P.info? ti.elem=some i∧i.size=ti.esize∧i.bytes=ti.ebytes∧i.zero=some ti.ezero:=by
 obtain ⟨d,hd,hk'⟩:=h.get
 rw [hk] at hk'
 obtain ⟨e,rfl⟩:∃ e,d=.slice e:=by cases d<;>simp [Zio] at hk';exact ⟨_,rfl⟩
 have:=h.elem
 rw [hd,hk] at this
 simp only [Option.some.injEq,Prod.mk.injEq] at this
 obtain ⟨h1,h2,h3⟩:=this
 subst h1
 refine ⟨hd,h3,?_⟩
 cases hi:P.info? ti.elem with
 | none=>simp [hi] at h2
 | some i=>simp [hi] at h2;exact ⟨i,rfl,h2.1,h2.2.1,h2.2.2⟩
theorem Q6.array {T:TypeId} {ti:TI} (h:Q6 P T ti) {n:Nat} (hk:ti.kind=.arr n) :
  P.underlying T=some (.array n ti.elem)∧(P.underlying ti.elem).map Jt=some ti.eagg∧∃ i,P.info? ti.elem=some i∧i.size=ti.esize∧i.bytes=ti.ebytes∧i.zero=some ti.ezero:=by
 obtain ⟨d,hd,hk'⟩:=h.get
 rw [hk] at hk'
 obtain ⟨e,rfl⟩:∃ e,d=.array n e:=by cases d<;>simp [Zio] at hk';subst hk';exact ⟨_,rfl⟩
 have:=h.elem
 rw [hd,hk] at this
 simp only [Option.some.injEq,Prod.mk.injEq] at this
 obtain ⟨h1,h2,h3⟩:=this
 subst h1
 refine ⟨hd,h3,?_⟩
 cases hi:P.info? ti.elem with
 | none=>simp [hi] at h2
 | some i=>simp [hi] at h2;exact ⟨i,rfl,h2.1,h2.2.1,h2.2.2⟩
theorem Zgk {T:TypeId} {ti:TI} (h:Q6 P T ti) (w:World):(isAgg T).run P w=.ok ti.kind.agg w:=by
 obtain ⟨d,hd,hk⟩:=h.get
 unfold isAgg
 rw [Sem.run_bind,run_underlying hd,←hk]
 simp only [Result.andThen_ok]
 cases d<;>rfl
theorem run_sizeOf {T:TypeId} {i:TypeInfo} (h:P.info? T=some i) (w:World):(sizeOf T).run P w=.ok i.size w:=by
 simp [sizeOf,typeInfo,h]
theorem VQ {T:TypeId} {ti:TI} (h:Q6 P T ti) (w:World) (p:Addr) (vs:List Value) (hvs:∀ j u,vs[j]?=some u→w.cell? (p.add j)=some u)
  (hl:ti.kind.agg=true→vs.length=ti.size) :
  (ti.kind.agg=true→(loadVar T p).run P w=.ok (.agg vs.toArray) w)∧
  (ti.kind.agg=false→∀ u,vs[0]?=some u→(loadVar T p).run P w=.ok u w):=by
 obtain ⟨i,hi,hs,_⟩:=h.info'
 constructor
 ·intro ha
  unfold loadVar
  rw [Sem.run_bind,Zgk h,ha]
  simp only [Result.andThen_ok,if_true]
  rw [Sem.run_bind,run_sizeOf hi,Result.andThen_ok,hs,←hl ha,Sem.run_bind,run_loadCells_list w p vs hvs]
  rfl
 ·intro ha u hu
  unfold loadVar
  rw [Sem.run_bind,Zgk h,ha]
  have:=hvs 0 u hu
  simp only [Addr.add,if_true] at this
  simp [this]
def YM (ti:TI) (cs:List SV) (K:SV→Prop):Prop :=
 if ti.kind.agg=true then Zex cs ti.size fun l=>if l.length=ti.size then K (.agg l) else False
 else match cs with
  | c::_=>K c
  | []=>False
theorem JU {E:Env} {T:TypeId} {ti:TI} (h:Q6 P T ti) (w:World) (p:Addr) {cs:List SV} {K:SV→Prop} (hk:YM ti cs K)
  (vs:List Value) (hd:Zy E cs vs) (hvs:∀ j u,vs[j]?=some u→w.cell? (p.add j)=some u) :
  ∃ v s,Zkc P w (loadVar T p) v∧den E s v∧K s:=by
 unfold YM at hk
 split at hk
 ·rename_i ha
  rw [J7] at hk
  split at hk
  ·rename_i hl
   have hd':=Jb cs vs hd ti.size
   have hl':=ZI _ _ hd'
   have h':=fun w' (hst:Ze3 w w')=>VQ h w' p (vs.take ti.size) (fun j u hu=>hst _ _ (hvs j u (by
    rw [List.getElem?_take] at hu;split at hu
    ·exact hu
    ·cases hu))) (fun _=>by rw [←hl'];exact hl)
   exact ⟨_,.agg _,fun w' hst=>(h' w' hst).1 ha,by simp only [den];exact ⟨_,rfl,hd'⟩,hk⟩
  ·exact hk.elim
 ·rename_i ha
  split at hk
  ·rename_i c r
   match vs,hd with
   | v::vs,hd =>
    simp only [Zy] at hd
    have h':=fun w' (hst:Ze3 w w')=>VQ h w' p (v::vs) (fun j u hu=>hst _ _ (hvs j u hu)) (fun e=>absurd e ha)
    exact ⟨v,c,fun w' hst=>(h' w' hst).2 (by simpa using ha) v rfl,hd.1,hk⟩
   | [],hd=>simp [Zy] at hd
  ·exact hk.elim
theorem Zbo {w:World} {b:Nat} {cs:Array Value} {T:TypeId} {fr:Nat×Nat} (hh:w.heap[b]?=some (.cells cs T fr)) (off:Nat) :
  ∀ j u,(cs.toList.drop off)[j]?=some u→w.cell? ((⟨b,off,none⟩:Addr).add j)=some u:=by
 intro j u hu
 rw [add_eq,cell_of_row w b (off+j) cs T fr hh]
 simpa using hu
def Zh5 (ti:TI) (s:SV) (H:List Entry) (K:SV→Prop):Prop :=
 match s with
 | .ptr id off=>Jk H id fun e=>match e with
  | .box cells=>Zaq cells off fun cs=>YM ti cs K
  | .fbx cells=>Zaq cells off fun cs=>YM ti cs K
  | _=>False
 | .fptr cs=>YM ti cs K
 | .oep id sz i off=>Jk H id fun e=>match e with
  | .arr _ t d=>t.size=sz∧ZaS d i fun x=>YK t x fun cells=>Zaq cells off fun cs=>YM ti cs K
  | .frz t d=>t.size=sz∧ZaS d i fun x=>YK t x fun cells=>Zaq cells off fun cs=>YM ti cs K
  | _=>False
 | _=>False
theorem ZhD {B:Base} {E:Env} {H:List Entry} (hI:Inv B E H) {T:TypeId} {ti:TI} (h:Q6 P T ti) {s:SV} {v:Value} (hs:den E s v) {K:SV→Prop} (hk:Zh5 ti s H K) :
  ∃ u r,Zkc P E.w (Instr.loadAt T v) u∧den E r u∧K r:=by
 have key:∀ (p:Addr) (cs:List SV) (vs:List Value),v=.pointer (some p)→YM ti cs K→Zy E cs vs→(∀ j u,vs[j]?=some u→E.w.cell? (p.add j)=some u)→
   ∃ u r,Zkc P E.w (Instr.loadAt T v) u∧den E r u∧K r:=by
  intro p cs vs hv hk hd hvs
  obtain ⟨u,r,h1,h2,h3⟩:=JU h E.w p hk vs hd hvs
  subst hv
  exact ⟨u,r,fun w' hst=>by simp only [Instr.loadAt,Instr.sureAddr,pure_bind];exact h1 w' hst,h2,h3⟩
 unfold Zh5 at hk
 split at hk
 ·rename_i id off
  obtain ⟨e,he,hk⟩:=ZK H hk
  split at hk
  ·rename_i cells
   rw [QL] at hk
   simp only [den] at hs
   obtain ⟨b,h1,rfl⟩:=hs
   obtain ⟨b',cs,T',h1',h2,h3⟩:=hI.ent id _ he
   have:=h1.symm.trans h1';simp at this;subst this
   exact key _ _ (cs.toList.drop off) rfl hk (Xl _ _ h3 off) (Zbo h2 off)
  ·rename_i cells
   rw [QL] at hk
   simp only [den] at hs
   obtain ⟨b,h1,rfl⟩:=hs
   obtain ⟨b',cs,T',h1',_,h2,h3⟩:=hI.ent id _ he
   have:=h1.symm.trans h1';simp at this;subst this
   exact key _ _ (cs.toList.drop off) rfl hk (Xl _ _ h3 off) (Zbo h2 off)
  ·exact hk.elim
 ·rename_i cs
  simp only [den] at hs
  obtain ⟨p,vs,rfl,hp,_,hvs,hd⟩:=hs
  exact key p cs vs rfl hk hd hvs
 ·rename_i id sz i off
  obtain ⟨e,he,hk⟩:=ZK H hk
  simp only [den] at hs
  obtain ⟨b,bo,n,c,h1,rfl⟩:=hs
  split at hk
  ·rename_i et t d
   obtain ⟨hsz,hi0,hlt',hk⟩:=hk
   have hlt:i.toNat<d.length:=by omega
   obtain ⟨x,hx⟩:∃ x,d[i.toNat]?=some x:=⟨_,List.getElem?_eq_getElem hlt⟩
   have hk:=hk x hx
   simp only [Z6,QL] at hk
   obtain ⟨v',xs,h1',h2,h3⟩:=hI.ent id _ he
   have:=h1.symm.trans h1';simp at this;subst this
   obtain ⟨vs,hr,hxs⟩:=JD (fun d vs=>Z4 t d vs) _ _ h3 _ x hx
   have hc:=h2.JM rfl
   refine key _ _ (vs.drop off) rfl hk (Xl _ _ (ZV t x vs hr) off) (fun j u hu=>?_)
   have hu':vs[off+j]?=some u:=by simpa using hu
   have:=hc _ u (hxs _ _ hu')
   rw [add_eq] at this ⊢
   rw [←hsz]
   rw [show bo+(i.toNat*t.size+off)+j=bo+(i.toNat*t.size+(off+j)) by omega]
   exact this
  ·rename_i t d
   obtain ⟨hsz,hi0,hlt',hk⟩:=hk
   have hlt:i.toNat<d.length:=by omega
   obtain ⟨x,hx⟩:∃ x,d[i.toNat]?=some x:=⟨_,List.getElem?_eq_getElem hlt⟩
   have hk:=hk x hx
   simp only [Z6,QL] at hk
   obtain ⟨v',h1',h2⟩:=hI.ent id _ he
   have:=h1.symm.trans h1';simp at this;subst this
   obtain ⟨a,cap,e1,_,_,h3⟩:=h2
   simp at e1
   obtain ⟨e1,e2,e3⟩:=e1
   rcases h3 with h3 | ⟨p,xs,e4,hp,_,hc,h3⟩
   ·subst h3;simp at hx
   ·rw [e4] at e1;simp at e1;subst e1
    obtain ⟨vs,hr,hxs⟩:=JD (fun d vs=>Z4 t d vs) _ _ h3 _ x hx
    refine key _ _ (vs.drop off) rfl hk (Xl _ _ (ZV t x vs hr) off) (fun j u hu=>?_)
    have hu':vs[off+j]?=some u:=by simpa using hu
    have:=hc _ u (hxs _ _ hu')
    rw [add_eq] at this ⊢
    rw [←hsz]
    rw [show bo+(i.toNat*t.size+off)+j=bo+(i.toNat*t.size+(off+j)) by omega]
    exact this
  ·exact hk.elim
 ·exact hk.elim
end
end Go.Sx
