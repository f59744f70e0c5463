/-
  The operations of the machine, run on symbolic values: what each asks (a proposition) and what it leaves; and that it is so.
-/
import Derived.Test.YtclfgjepbamnlaaGreatDoorSxLoose
namespace Go.Sx
set_option linter.unusedVariables false
set_option linter.unusedSimpArgs false
inductive TK
 | int (k:IntKind)
 | bool
 | str
 | sl
 | arr (n:Nat)
 | st
 | ptr
 | mp (k e:TypeId)
 | oth
def Zsy:TypeDesc→TK
 | .int k=>.int k
 | .bool=>.bool
 | .string=>.str
 | .slice _=>.sl
 | .array n _=>.arr n
 | .struct _=>.st
 | .pointer _=>.ptr
 | .map k e=>.mp k e
 | _=>.oth
def TK.agg:TK→Bool
 | .st=>true
 | .arr _=>true
 | _=>false
def TK.Zyo:TK→Bool
 | .st=>true
 | _=>false
inductive EqD
 | nil
 | int (k:IntKind) (o:Nat) (r:EqD)
 | bool (o:Nat) (r:EqD)
 | str (o:Nat) (r:EqD)
 | st (o sz:Nat) (fs r:EqD)
def Zrn (k:IntKind):Option TypeDesc→Bool
 | some (.int k')=>decide (k'=k)
 | _=>false
def ZoQ:Option TypeDesc→Bool
 | some .bool=>true
 | _=>false
def Zro:Option TypeDesc→Bool
 | some .string=>true
 | _=>false
def EqD.fits (P:Program):EqD→List Field→Bool
 | .nil,fl=>fl.isEmpty
 | .int k o r,fl=>match fl with
  | []=>false
  | f::fl=>f.name != "_" && f.offset == o&&Zrn k (P.underlying f.type)&&r.fits P fl
 | .bool o r,fl=>match fl with
  | []=>false
  | f::fl=>f.name != "_" && f.offset == o&&ZoQ (P.underlying f.type)&&r.fits P fl
 | .str o r,fl=>match fl with
  | []=>false
  | f::fl=>f.name != "_" && f.offset == o&&Zro (P.underlying f.type)&&r.fits P fl
 | .st o sz fs r,fl=>match fl with
  | []=>false
  | f::fl=>f.name != "_" && f.offset == o&&(match P.underlying f.type with
    | some (.struct gs)=>!P.stoodInHeld f.type&&fs.fits P gs.toList
    | _=>false)&&(P.info? f.type).map (·.size) == some sz&&r.fits P fl
def EqD.isNil:EqD→Bool
 | .nil=>true
 | _=>false
structure TI where
 size:Nat
 bytes:Nat
 zero:Value
 kind:TK
 flds:List (Nat×Nat×Bool):=[]
 elem:TypeId:=0
 esize:Nat:=0
 ebytes:Nat:=0
 ezero:Value:=undef
 eagg:Bool:=false
 ty:Ty:=.unit
 ety:Ty:=.unit
 eqd:EqD:=.nil
 edp:Option Dp:=none
 cut:Bool:=false
def Zfp:TypeDesc→Bool
 | .struct _=>true
 | .array _ _=>true
 | _=>false
structure Zbr (P:Program) (T:TypeId) (ti:TI):Prop where
 info:(P.info? T).map (fun i=>(i.size,i.bytes,i.zero))=some (ti.size,ti.bytes,some ti.zero)
 kind:(P.underlying T).map Zsy=some ti.kind
 flds:(match P.underlying T with
  | some (.struct fs)=>fs.toList.map (fun f=>(f.offset,(P.info? f.type).map (·.size),(P.underlying f.type).map Zfp))
  | _=>[])=ti.flds.map (fun x=>(x.1,some x.2.1,some x.2.2))
 elem:(match P.underlying T with
  | some (.slice e)=>some (e,(P.info? e).map (fun i=>(i.size,i.bytes,i.zero)),((P.underlying e).map Zfp))
  | some (.array _ e)=>some (e,(P.info? e).map (fun i=>(i.size,i.bytes,i.zero)),((P.underlying e).map Zfp))
  | _=>none)=(match ti.kind with
  | .sl=>some (ti.elem,some (ti.esize,ti.ebytes,some ti.ezero),some ti.eagg)
  | .arr _=>some (ti.elem,some (ti.esize,ti.ebytes,some ti.ezero),some ti.eagg)
  | _=>none)
 eqd:(ti.eqd.isNil||match P.underlying T with
  | some (.struct fs)=>!P.stoodInHeld T&&ti.eqd.fits P fs.toList&&!P.eqGuardType P.depth T
  | _=>false)=true
abbrev Tab:=List (Nat×TI)
def Tab.ok (Δ:Tab) (P:Program):Prop:=∀ x∈Δ,Zbr P x.1 x.2
def Zbd:Tab→Nat→(TI→Prop)→Prop
 | [],_,_=>False
 | (n,ti)::r,T,K=>if n=T then K ti else Zbd r T K
theorem YQ {P:Program}:∀ (Δ:Tab),Δ.ok P→∀ {T:Nat} {K:TI→Prop},Zbd Δ T K→∃ ti,Zbr P T ti∧K ti
 | [],_,_,_,h=>h.elim
 | (n,ti)::r,hΔ,T,K,h=>by
  unfold Zbd at h
  split at h
  ·rename_i e;subst e;exact ⟨ti,hΔ (n,ti) (by simp),h⟩
  ·exact YQ r (fun x hx=>hΔ x (by simp [hx])) h
def Zls:List SV→Nat→(SV→Prop)→Prop
 | [],_,_=>False
 | s::_,0,K=>K s
 | _::r,n+1,K=>Zls r n K
theorem J4 {E:Env}:∀ (cs:List SV) (vs:List Value),ZN E cs vs→∀ {n:Nat} {K:SV→Prop},Zls cs n K→∃ s v,vs[n]?=some v∧den E s v∧K s∧cs[n]?=some s
 | [],_,_,_,_,h=>h.elim
 | c::cs,v::vs,hd,0,K,h=>by simp only [ZN] at hd;exact ⟨c,v,rfl,hd.1,h,rfl⟩
 | c::cs,v::vs,hd,n+1,K,h=>by simp only [ZN] at hd;simpa using J4 cs vs hd.2 (n:=n) h
 | _::_,[],hd,_,_,_=>by simp [ZN] at hd
def Zsu:List SV→Nat→SV→(List SV→Prop)→Prop
 | [],_,_,K=>K []
 | _::r,0,s,K=>K (s::r)
 | x::r,n+1,s,K=>Zsu r n s fun r'=>K (x::r')
theorem Zc3:∀ (cs:List SV) (n:Nat) (s:SV) (K:List SV→Prop),Zsu cs n s K=K (cs.set n s)
 | [],_,_,_=>rfl
 | _::_,0,_,_=>rfl
 | x::r,n+1,s,K=>by simp [Zsu,Zc3 r n s]
def Zov {α:Type}:List α→List α→(List α→Prop)→Prop
 | [],l,K=>K l
 | x::r,l,K=>Zov r l fun r'=>K (x::r')
theorem Jb {α:Type}:∀ (cs l:List α) (K:List α→Prop),Zov cs l K=K (cs++l)
 | [],_,_=>rfl
 | x::r,l,K=>by simp [Zov,Jb r l]
def Zg9 {α:Type}:List α→Nat→(List α→Prop)→Prop
 | l,0,K=>K l
 | [],_+1,K=>K []
 | _::r,n+1,K=>Zg9 r n K
theorem Zax {α:Type}:∀ (cs:List α) (n:Nat) (K:List α→Prop),Zg9 cs n K=K (cs.drop n)
 | l,0,_=>by cases l<;>rfl
 | [],_+1,_=>rfl
 | _::r,n+1,K=>by simp [Zg9,Zax r n]
def ZnW {α:Type}:List α→Nat→(List α→Prop)→Prop
 | _,0,K=>K []
 | [],_+1,K=>K []
 | x::r,n+1,K=>ZnW r n fun r'=>K (x::r')
theorem ZgB {α:Type}:∀ (cs:List α) (n:Nat) (K:List α→Prop),ZnW cs n K=K (cs.take n)
 | l,0,_=>by cases l<;>rfl
 | [],_+1,_=>rfl
 | x::r,n+1,K=>by simp [ZnW,ZgB r n]
def ZqG {α:Type}:List α→Nat→(Nat→Prop)→Prop
 | [],n,K=>K n
 | _::r,n,K=>ZqG r (n+1) K
theorem ZaV {α:Type}:∀ (l:List α) (n:Nat) (K:Nat→Prop),ZqG l n K=K (n+l.length)
 | [],_,_=>rfl
 | _::r,n,K=>by simp [ZqG,ZaV r (n+1),Nat.add_assoc,Nat.add_comm 1]
def ZfG:List Entry→Nat→(Entry→Prop)→Prop
 | [],_,_=>False
 | s::_,0,K=>K s
 | _::r,n+1,K=>ZfG r n K
theorem YC:∀ (H:List Entry) {n:Nat} {K:Entry→Prop},ZfG H n K→∃ e,H[n]?=some e∧K e
 | [],_,_,h=>h.elim
 | e::_,0,K,h=>⟨e,rfl,h⟩
 | _::r,n+1,K,h=>by simpa using YC r (n:=n) h
def ZfZ:List Entry→Nat→Entry→(List Entry→Prop)→Prop
 | [],_,_,K=>K []
 | _::r,0,s,K=>K (s::r)
 | x::r,n+1,s,K=>ZfZ r n s fun r'=>K (x::r')
theorem YO:∀ (cs:List Entry) (n:Nat) (s:Entry) (K:List Entry→Prop),ZfZ cs n s K=K (cs.set n s)
 | [],_,_,_=>rfl
 | _::_,0,_,_=>rfl
 | x::r,n+1,s,K=>by simp [ZfZ,YO r n s]
def Ql:(t:Ty)→t.den→(List SV→Prop)→Prop
 | .int k,n,K=>K [.int k n]
 | .bool,b,K=>K [.bool b]
 | .str,s,K=>K [.str s]
 | .sl t,l,K=>K [.sl t l]
 | .unit,_,K=>K []
 | .ptr t,d,K=>Ql t d fun cs=>K [.fptr cs]
 | .fn f t,d,K=>Ql t d fun cs=>K [.fn f cs]
 | .nptr t,d,K=>K [.nptr t d]
 | .mp k v,d,K=>K [.mp k v d]
 | .pair _ _,d,K=>splitK d fun x y=>Ql _ x fun c1=>Ql _ y fun c2=>Zov c1 c2 K
theorem Xk:∀ (t:Ty) (d:t.den) (K:List SV→Prop),Ql t d K=K (ZdY t d)
 | .int _,_,_=>rfl
 | .bool,_,_=>rfl
 | .str,_,_=>rfl
 | .sl _,_,_=>rfl
 | .unit,_,_=>rfl
 | .ptr t,d,K=>by simp [Ql,ZdY,Xk t]
 | .fn f t,d,K=>by simp [Ql,ZdY,Xk t]
 | .nptr t,d,K=>rfl
 | .mp k v,d,K=>rfl
 | .pair a b,d,K=>by simp [Ql,ZdY,QE,Xk a,Xk b,Jb]
def Zh7 {α:Type} (d:List α) (i:Int) (K:α→Prop):Prop:=0≤i∧i<(d.length:Int)∧∀ x,d[i.toNat]?=some x→K x
def Zjp:Value→Option SV
 | .int k n=>some (.int k n)
 | .bool b=>some (.blit b)
 | .string s=>some (.str s.data.toList)
 | .slice none 0 0=>some .nsl
 | .pointer none=>some .nilp
 | .map none=>some (.mp .unit .unit [])
 | _=>none
theorem Zld (E:Env) (v:Value) (s:SV) (h:Zjp v=some s):den E s v:=by
 unfold Zjp at h
 split at h<;>simp at h<;>subst h<;>simp [den,rep]
def Zer:List Value→Option (List SV)
 | []=>some []
 | v::r=>match Zjp v,Zer r with
  | some s,some l=>some (s::l)
  | _,_=>none
theorem Zf6 (E:Env):∀ (vs:List Value) (cs:List SV),Zer vs=some cs→ZN E cs vs
 | [],cs,h=>by simp [Zer] at h;subst h;trivial
 | v::r,cs,h=>by
  simp only [Zer] at h
  split at h
  ·rename_i s l h1 h2
   simp at h;subst h
   exact ⟨Zld E v s h1,Zf6 E r l h2⟩
  ·simp at h
def ZsZ (v:Value) (K:SV→Prop):Prop :=
 match v with
 | .agg cs=>match Zer cs.toList with
  | some l=>K (.agg l)
  | none=>False
 | v=>match Zjp v with
  | some s=>K s
  | none=>False
theorem Zs0 (E:Env) (v:Value) (K:SV→Prop) (h:ZsZ v K):∃ s,den E s v∧K s:=by
 unfold ZsZ at h
 split at h
 ·rename_i cs
  split at h
  ·rename_i l hl
   exact ⟨.agg l,by simp only [den];exact ⟨cs.toList,by simp,Zf6 E _ _ hl⟩,h⟩
  ·exact h.elim
 ·split at h
  ·rename_i s hs;exact ⟨s,Zld E _ s hs,h⟩
  ·exact h.elim
def Znk (v:Value) (K:List SV→Prop):Prop :=
 match Zer v.cells.toList with
 | some l=>K l
 | none=>False
theorem Zep (E:Env) (v:Value) (K:List SV→Prop) (h:Znk v K):∃ l,ZN E l v.cells.toList∧K l:=by
 unfold Znk at h
 split at h
 ·rename_i l hl;exact ⟨l,Zf6 E _ _ hl,h⟩
 ·exact h.elim
def Q9 (regs:List SV) (o:Operand) (K:SV→Prop):Prop :=
 match o with
 | .tmp t=>Zls regs t K
 | .const v=>ZsZ v K
 | .func f=>K (.fn f [])
 | .global _=>False
theorem Z8 {E:Env} {regs:List SV} {a:Act} (hd:ZN E regs a.tmps.toList) {o:Operand} {K:SV→Prop} (h:Q9 regs o K):∃ s,den E s (a.eval o)∧K s:=by
 cases o with
 | tmp t =>
  obtain ⟨s,v,h1,h2,h3,_⟩:=J4 _ _ hd h
  refine ⟨s,?_,h3⟩
  have:a.eval (.tmp t)=v:=by
   have h1':a.tmps[t]?=some v:=by simpa using h1
   simp [Act.eval,h1']
  rw [this];exact h2
 | const v=>exact Zs0 E v K h
 | func f=>exact ⟨_,by simp only [den];exact ⟨[],by simp [Act.eval],trivial⟩,h⟩
 | global g=>exact h.elim
end Go.Sx
