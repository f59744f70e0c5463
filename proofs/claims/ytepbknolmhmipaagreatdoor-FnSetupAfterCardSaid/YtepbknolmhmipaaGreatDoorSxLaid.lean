/-
  Package-level variables that a row lists: the walks' premise on them.
-/
import Derived.Test.YtepbknolmhmipaaGreatDoorE1
import Derived.Lib.LaidTab
namespace Go.Sx
open Go
set_option linter.unusedVariables false
set_option linter.unusedSimpArgs false
theorem ZoW {P:Program} {w:World}:∀ {laid:List (String×DataW Unit)} {ps:List MemPlace},DataW.LaidVars P w laid ps->∀ {i:Nat} {n:String} {d:DataW Unit},laid[i]?=some (n,d)->
  ∃ g t cs fuel p,P.globalNamed n=some g/\(P.globals[g]?).map (·.type)=some t/\w.var? P n=some cs/\DataW.trod (λ_=>()) P w 0 (λ_=>true) false fuel t cs.toList=some (d,p)
 | [],_,_,i,_,_,h=>by simp at h
 | (n0,d0)::r,ps,⟨g,t,cs,fuel,p,q,h1,h2,h3,h4,h5,h6⟩,0,n,d,h=>by
  simp only[List.getElem?_cons_zero,Option.some.injEq,Prod.mk.injEq] at h;obtain ⟨rfl,rfl⟩:=h;exact ⟨g,t,cs,fuel,p,h1,h2,h3,h4⟩
 | (n0,d0)::r,ps,⟨g,t,cs,fuel,p,q,h1,h2,h3,h4,h5,h6⟩,i+1,n,d,h=>ZoW h5 (by simpa using h)
theorem Ztn {P:Program} {w:World} {n:String} {g:Nat} {cs:Array Value} (hg:P.globalNamed n=some g) (h:w.var? P n=some cs):∃ c m,w.heap[g]?=some (.cells cs c m):=by
 unfold World.var? at h;rw[hg,Option.bind_some] at h;split at h
 ·rename_i c t m e
  injection h with h
  subst h;exact ⟨_,_,e⟩
 ·cases h
theorem Znh {P:Program} {w:World} {base:Nat} {sp:Nat->Bool} {held:Bool} {fuel:Nat} {t e:TypeId} {n:Nat} {cs:List Value} {zs:List (List UInt8)} {p:List MemPlace}
  (ht:P.underlying t=some (.array n e)) (he:P.underlying e=some .string) (hce:P.cellsOf e=1) (hct:P.cellsOf t=n)
  (h:DataW.trod (λ_=>()) P w base sp held fuel t cs=some (.agg (zs.map λs=>.lit (.string s)),p)):cs=zs.map λs=>Value.string ⟨s.toArray⟩:=by
 cases fuel with
 | zero=>simp[DataW.trod] at h
 | succ fuel =>
  simp only[DataW.trod,ht,hce,hct,Nat.mul_one] at h;split at h
  ·rename_i hl
   obtain ⟨xs,hm,hx⟩:=Option.map_eq_some_iff.1 h;have hxs:xs.map (·.1)=zs.map λs=>(DataW.lit (.string s):DataW Unit):=by
    have:=congrArg Prod.fst hx;simpa using this
   have hxl:xs.length=n:=by simpa using Lib.mapM_length hm
   have hzl:zs.length=n:=by
    have:=congrArg List.length hxs;simp at this;omega
   apply List.ext_getElem?;intro i;by_cases hi:i<n
   ·obtain ⟨b,hb,hf⟩:=Lib.mapM_at hm i i (by simp[hi])
    obtain ⟨z,hc,rfl,_⟩:=DataW.trod_string he hf;have h1:cs[i]?=some (.string z):=by
     have:=congrArg (·[0]?) hc;simpa[List.getElem?_take,List.getElem?_drop] using this
    have h2:(xs.map (·.1))[i]?=some (DataW.lit (.string z.data.toList):DataW Unit):=by simp[hb]
    rw[hxs] at h2;simp only[List.getElem?_map,Option.map_eq_some_iff,DataW.lit.injEq,Lit.string.injEq] at h2;obtain ⟨z',hz',rfl⟩:=h2;rw[h1,List.getElem?_map,hz'];rfl
   ·rw[List.getElem?_eq_none (by omega),List.getElem?_eq_none (by simp;omega)]
  ·cases h
theorem Zr1 {S:Nat->Prop} {w:World} {t:Ty} {f:t.den->Value} (hf:∀ d,rep S w t d [f d]):∀ l:List t.den,YZ (rep S w t) l (l.map f)
 | []=>rfl
 | d::l=>⟨[f d],l.map f,rfl,hf d,Zr1 hf l⟩
theorem ZpF {P:Program} {w:World} {n:String} {g:Nat} {t:Ty} {l:List t.den} {f:t.den->Value} (hf:∀ d,rep (λb=>b<w.heap.size) w t d [f d]) {cs:Array Value} (hg:P.globalNamed n=some g) (hv:w.var? P n=some cs) (hc:cs.toList=l.map f) :
  g<w.heap.size/\∃ xs,YZ (rep (λb=>b<w.heap.size) w t) l xs/\(∃ c m,w.heap[g]?=some (.cells xs.toArray c m))/\∀ (j:Nat) (u:Value),xs[j]?=some u->w.cell? ⟨g,j,none⟩=some u:=by
 obtain ⟨c,m,hh⟩:=Ztn hg hv;refine ⟨?_,l.map f,Zr1 hf l,⟨c,m,by rw[<-hc];simpa using hh⟩,λj u hu=>?_⟩
 ·rcases Nat.lt_or_ge g w.heap.size with h | h
  ·exact h
  ·simp[Array.getElem?_eq_none h] at hh
 ·have:=World.var?_cell hg hv j
  rw[this,<-Array.getElem?_toList,hc,hu]
theorem Zrr {P:Program} {w:World} {laid:List (String×DataW Unit)} (hL:laidMet P laid w) {i:Nat} {n:String} {k:IntKind} {l:List Int} (hi:laid[i]?=some (n,Lib.tabData k l)) {g:Nat} {t e:TypeId} {m:Nat}
  (hg:P.globalNamed n=some g) (hty:(P.globals[g]?).map (·.type)=some t) (ht:P.underlying t=some (.array m e)) (he:P.underlying e=some (.int k)) (hce:P.cellsOf e=1) (hct:P.cellsOf t=m) :
  g<w.heap.size/\∃ xs,YZ (rep (λb=>b<w.heap.size) w (.int k)) l xs/\(∃ c m,w.heap[g]?=some (.cells xs.toArray c m))/\∀ (j:Nat) (u:Value),xs[j]?=some u->w.cell? ⟨g,j,none⟩=some u:=by
 obtain ⟨ps,hv,_⟩:=hL;obtain ⟨g',t',cs,fuel,p,h1,h2,h3,h4⟩:=ZoW hv hi;obtain rfl:=Option.some.inj (hg.symm.trans h1);obtain rfl:=Option.some.inj (hty.symm.trans h2);exact ZpF (t:=.int k) (f:=Value.int k) (λd=>rfl) hg h3 (Lib.cells_of_tab ht he hce hct h4)
theorem Zrs {P:Program} {w:World} {laid:List (String×DataW Unit)} (hL:laidMet P laid w) {i:Nat} {n:String} {l:List (List UInt8)} (hi:laid[i]?=some (n,.agg (l.map λs=>.lit (.string s)))) {g:Nat} {t e:TypeId} {m:Nat}
  (hg:P.globalNamed n=some g) (hty:(P.globals[g]?).map (·.type)=some t) (ht:P.underlying t=some (.array m e)) (he:P.underlying e=some .string) (hce:P.cellsOf e=1) (hct:P.cellsOf t=m) :
  g<w.heap.size/\∃ xs,YZ (rep (λb=>b<w.heap.size) w .str) l xs/\(∃ c m,w.heap[g]?=some (.cells xs.toArray c m))/\∀ (j:Nat) (u:Value),xs[j]?=some u->w.cell? ⟨g,j,none⟩=some u:=by
 obtain ⟨ps,hv,_⟩:=hL;obtain ⟨g',t',cs,fuel,p,h1,h2,h3,h4⟩:=ZoW hv hi;obtain rfl:=Option.some.inj (hg.symm.trans h1);obtain rfl:=Option.some.inj (hty.symm.trans h2);exact ZpF (t:=.str) (f:=λs=>Value.string ⟨s.toArray⟩) (λd=>rfl) hg h3 (Znh ht he hce hct h4)
end Go.Sx
