/-
  A load from a variable sees its variable's cells alone; what an append leaves as it was.
-/
import Derived.Test.YtgjjlgodlhhdoaaGreatDoorSxStep
namespace Go.Sx
set_option linter.unusedVariables false
set_option linter.unusedSimpArgs false
section
variable {P:Program}
theorem Zlp {E:Env} {T:TypeId} {ti:TI} (h:ZbB P T ti) (W:World->Prop) (p:Addr) {cs:List SV} {K:SV->Prop} (hk:Qw ti cs K)
  (vs:List Value) (hd:ZT E cs vs) (hvs:∀ w',W w'->∀ j u,vs[j]?=some u->w'.cell? (p.add j)=some u) :
  ∃ v s,(∀ w',W w'->(loadVar T p).run P w'=.ok v w')/\den E s v/\K s:=by
 unfold Qw at hk;split at hk
 ·rename_i ha
  rw[ZfT] at hk;split at hk
  ·rename_i hl
   have hd':=Zej cs vs hd ti.size;have hl':=Yl _ _ hd';have h':=λw' (hst:W w')=>Zdp h w' p (vs.take ti.size) (λj u hu=>hvs w' hst j u (by
    rw[List.getElem?_take] at hu;split at hu
    ·exact hu
    ·cases hu)) (λ_=>by rw[<-hl'];exact hl)
   exact ⟨_,.agg _,λw' hst=>(h' w' hst).1 ha,by simp only[den];exact ⟨_,rfl,hd'⟩,hk⟩
  ·exact hk.elim
 ·rename_i ha
  split at hk
  ·rename_i c r
   match vs,hd,hvs with
   | v::vs,hd,hvs =>
    simp only[ZT] at hd;have h':=λw' (hst:W w')=>Zdp h w' p (v::vs) (λj u hu=>hvs w' hst j u hu) (λe=>absurd e ha);exact ⟨v,c,λw' hst=>(h' w' hst).2 (by simpa using ha) v rfl,hd.1,hk⟩
   | [],hd,_=>simp[ZT] at hd
  ·exact hk.elim
theorem ZqF {B:Base} {E:Env} {H:List Entry} (hI:Inv B E H) {T:TypeId} {ti:TI} (h:ZbB P T ti) {id off:Nat} {v:Value} (hs:den E (.ptr id off) v) {cells:List SV} (he:H[id]?=some (.box cells)) {K:SV->Prop}
  (hk:Zgj cells off λcs=>Qw ti cs K) :
  ∃ b u r,E.ids[id]?=some (.pointer (some ⟨b,0,none⟩))/\(∀ w':World,w'.heap[b]?=E.w.heap[b]?->(Instr.loadAt T v).run P w'=.ok u w')/\den E r u/\K r:=by
 rw[ZaN] at hk;simp only[den] at hs;obtain ⟨b,h1,rfl⟩:=hs;obtain ⟨b',cs,T',h1',h2,h3⟩:=hI.ent id _ he;have:=h1.symm.trans h1';simp at this;subst this;obtain ⟨u,r,g1,g2,g3⟩:=Zlp h (λw'=>w'.heap[b]?=E.w.heap[b]?) ⟨b,off,none⟩ hk (cs.toList.drop off) (Vv _ _ h3 off) (λw' hw=>ZhB (hw.trans h2) off);exact ⟨b,u,r,h1,λw' hw=>by simp only[Instr.loadAt,Instr.sureAddr,pure_bind];exact g1 w' hw,g2,g3⟩
theorem Zj3 {B:Base} {E:Env} {H:List Entry} (hI:Inv B E H) {id:Nat} {cells:List SV} (he:H[id]?=some (.box cells)) {b:Nat} (hb:E.ids[id]?=some (.pointer (some ⟨b,0,none⟩)))
  {k:Nat} {ek:Entry} {v:Value} (hk:H[k]?=some ek) (hl:ek.live=true) (hv:E.ids[k]?=some v) (hkid:k≠id):¬ZeY ek v b:=by
 intro h;exact hkid (hI.sep k id ek _ v _ b hk he hl rfl hv hb h (by simp[ZeY,Yh]))
end
end Go.Sx
