/-
  The operations of the machine, run on symbolic values: what each asks (a proposition) and what it leaves; and that it is so.
-/
import Derived.Test.YtnnbgbgapogckaaGreatDoorSxLoose
namespace Go.Sx
set_option linter.unusedVariables false
set_option linter.unusedSimpArgs false
inductive TK
 | int (k:IntKind)
 | bool
 | str
 | sl
 | arr (n:Nat)
 | st
 | ptr
 | mp (k e:TypeId)
 | oth
def Zio:TypeDesc→TK
 | .int k=>.int k
 | .bool=>.bool
 | .string=>.str
 | .slice _=>.sl
 | .array n _=>.arr n
 | .struct _=>.st
 | .pointer _=>.ptr
 | .map k e=>.mp k e
 | _=>.oth
def TK.agg:TK→Bool
 | .st=>true
 | .arr _=>true
 | _=>false
def TK.Znj:TK→Bool
 | .st=>true
 | _=>false
inductive EqD
 | nil
 | int (k:IntKind) (o:Nat) (r:EqD)
 | bool (o:Nat) (r:EqD)
 | str (o:Nat) (r:EqD)
 | st (o sz:Nat) (fs r:EqD)
def Zhz (k:IntKind):Option TypeDesc→Bool
 | some (.int k')=>decide (k'=k)
 | _=>false
def Zfr:Option TypeDesc→Bool
 | some .bool=>true
 | _=>false
def ZhA:Option TypeDesc→Bool
 | some .string=>true
 | _=>false
def EqD.fits (P:Program):EqD→List Field→Bool
 | .nil,fl=>fl.isEmpty
 | .int k o r,fl=>match fl with
  | []=>false
  | f::fl=>f.name != "_" && f.offset == o&&Zhz k (P.underlying f.type)&&r.fits P fl
 | .bool o r,fl=>match fl with
  | []=>false
  | f::fl=>f.name != "_" && f.offset == o&&Zfr (P.underlying f.type)&&r.fits P fl
 | .str o r,fl=>match fl with
  | []=>false
  | f::fl=>f.name != "_" && f.offset == o&&ZhA (P.underlying f.type)&&r.fits P fl
 | .st o sz fs r,fl=>match fl with
  | []=>false
  | f::fl=>f.name != "_" && f.offset == o&&(match P.underlying f.type with
    | some (.struct gs)=>!P.stoodInHeld f.type&&fs.fits P gs.toList
    | _=>false)&&(P.info? f.type).map (·.size) == some sz&&r.fits P fl
def EqD.isNil:EqD→Bool
 | .nil=>true
 | _=>false
structure TI where
 size:Nat
 bytes:Nat
 zero:Value
 kind:TK
 flds:List (Nat×Nat×Bool):=[]
 elem:TypeId:=0
 esize:Nat:=0
 ebytes:Nat:=0
 ezero:Value:=undef
 eagg:Bool:=false
 ty:Ty:=.unit
 ety:Ty:=.unit
 eqd:EqD:=.nil
 edp:Option Dp:=none
 cut:Bool:=false
def Jt:TypeDesc→Bool
 | .struct _=>true
 | .array _ _=>true
 | _=>false
structure Q6 (P:Program) (T:TypeId) (ti:TI):Prop where
 info:(P.info? T).map (fun i=>(i.size,i.bytes,i.zero))=some (ti.size,ti.bytes,some ti.zero)
 kind:(P.underlying T).map Zio=some ti.kind
 flds:(match P.underlying T with
  | some (.struct fs)=>fs.toList.map (fun f=>(f.offset,(P.info? f.type).map (·.size),(P.underlying f.type).map Jt))
  | _=>[])=ti.flds.map (fun x=>(x.1,some x.2.1,some x.2.2))
 elem:(match P.underlying T with
  | some (.slice e)=>some (e,(P.info? e).map (fun i=>(i.size,i.bytes,i.zero)),((P.underlying e).map Jt))
  | some (.array _ e)=>some (e,(P.info? e).map (fun i=>(i.size,i.bytes,i.zero)),((P.underlying e).map Jt))
  | _=>none)=(match ti.kind with
  | .sl=>some (ti.elem,some (ti.esize,ti.ebytes,some ti.ezero),some ti.eagg)
  | .arr _=>some (ti.elem,some (ti.esize,ti.ebytes,some ti.ezero),some ti.eagg)
  | _=>none)
 eqd:(ti.eqd.isNil||match P.underlying T with
  | some (.struct fs)=>!P.stoodInHeld T&&ti.eqd.fits P fs.toList&&!P.eqGuardType P.depth T
  | _=>false)=true
abbrev Tab:=List (Nat×TI)
def Tab.ok (Δ:Tab) (P:Program):Prop:=∀ x∈Δ,Q6 P x.1 x.2
def Q0:Tab→Nat→(TI→Prop)→Prop
 | [],_,_=>False
 | (n,ti)::r,T,K=>if n=T then K ti else Q0 r T K
theorem ZU {P:Program}:∀ (Δ:Tab),Δ.ok P→∀ {T:Nat} {K:TI→Prop},Q0 Δ T K→∃ ti,Q6 P T ti∧K ti
 | [],_,_,_,h=>h.elim
 | (n,ti)::r,hΔ,T,K,h=>by
  unfold Q0 at h
  split at h
  ·rename_i e;subst e;exact ⟨ti,hΔ (n,ti) (by simp),h⟩
  ·exact ZU r (fun x hx=>hΔ x (by simp [hx])) h
def ZcL:List SV→Nat→(SV→Prop)→Prop
 | [],_,_=>False
 | s::_,0,K=>K s
 | _::r,n+1,K=>ZcL r n K
theorem Qr {E:Env}:∀ (cs:List SV) (vs:List Value),Zy E cs vs→∀ {n:Nat} {K:SV→Prop},ZcL cs n K→∃ s v,vs[n]?=some v∧den E s v∧K s∧cs[n]?=some s
 | [],_,_,_,_,h=>h.elim
 | c::cs,v::vs,hd,0,K,h=>by simp only [Zy] at hd;exact ⟨c,v,rfl,hd.1,h,rfl⟩
 | c::cs,v::vs,hd,n+1,K,h=>by simp only [Zy] at hd;simpa using Qr cs vs hd.2 (n:=n) h
 | _::_,[],hd,_,_,_=>by simp [Zy] at hd
def Zij:List SV→Nat→SV→(List SV→Prop)→Prop
 | [],_,_,K=>K []
 | _::r,0,s,K=>K (s::r)
 | x::r,n+1,s,K=>Zij r n s fun r'=>K (x::r')
theorem VH:∀ (cs:List SV) (n:Nat) (s:SV) (K:List SV→Prop),Zij cs n s K=K (cs.set n s)
 | [],_,_,_=>rfl
 | _::_,0,_,_=>rfl
 | x::r,n+1,s,K=>by simp [Zij,VH r n s]
def Ze9 {α:Type}:List α→List α→(List α→Prop)→Prop
 | [],l,K=>K l
 | x::r,l,K=>Ze9 r l fun r'=>K (x::r')
theorem XW {α:Type}:∀ (cs l:List α) (K:List α→Prop),Ze9 cs l K=K (cs++l)
 | [],_,_=>rfl
 | x::r,l,K=>by simp [Ze9,XW r l]
def Zaq {α:Type}:List α→Nat→(List α→Prop)→Prop
 | l,0,K=>K l
 | [],_+1,K=>K []
 | _::r,n+1,K=>Zaq r n K
theorem QL {α:Type}:∀ (cs:List α) (n:Nat) (K:List α→Prop),Zaq cs n K=K (cs.drop n)
 | l,0,_=>by cases l<;>rfl
 | [],_+1,_=>rfl
 | _::r,n+1,K=>by simp [Zaq,QL r n]
def Zex {α:Type}:List α→Nat→(List α→Prop)→Prop
 | _,0,K=>K []
 | [],_+1,K=>K []
 | x::r,n+1,K=>Zex r n fun r'=>K (x::r')
theorem J7 {α:Type}:∀ (cs:List α) (n:Nat) (K:List α→Prop),Zex cs n K=K (cs.take n)
 | l,0,_=>by cases l<;>rfl
 | [],_+1,_=>rfl
 | x::r,n+1,K=>by simp [Zex,J7 r n]
def ZgB {α:Type}:List α→Nat→(Nat→Prop)→Prop
 | [],n,K=>K n
 | _::r,n,K=>ZgB r (n+1) K
theorem Qt {α:Type}:∀ (l:List α) (n:Nat) (K:Nat→Prop),ZgB l n K=K (n+l.length)
 | [],_,_=>rfl
 | _::r,n,K=>by simp [ZgB,Qt r (n+1),Nat.add_assoc,Nat.add_comm 1]
def Jk:List Entry→Nat→(Entry→Prop)→Prop
 | [],_,_=>False
 | s::_,0,K=>K s
 | _::r,n+1,K=>Jk r n K
theorem ZK:∀ (H:List Entry) {n:Nat} {K:Entry→Prop},Jk H n K→∃ e,H[n]?=some e∧K e
 | [],_,_,h=>h.elim
 | e::_,0,K,h=>⟨e,rfl,h⟩
 | _::r,n+1,K,h=>by simpa using ZK r (n:=n) h
def JL:List Entry→Nat→Entry→(List Entry→Prop)→Prop
 | [],_,_,K=>K []
 | _::r,0,s,K=>K (s::r)
 | x::r,n+1,s,K=>JL r n s fun r'=>K (x::r')
theorem ZT:∀ (cs:List Entry) (n:Nat) (s:Entry) (K:List Entry→Prop),JL cs n s K=K (cs.set n s)
 | [],_,_,_=>rfl
 | _::_,0,_,_=>rfl
 | x::r,n+1,s,K=>by simp [JL,ZT r n s]
def YK:(t:Ty)→t.den→(List SV→Prop)→Prop
 | .int k,n,K=>K [.int k n]
 | .bool,b,K=>K [.bool b]
 | .str,s,K=>K [.str s]
 | .sl t,l,K=>K [.sl t l]
 | .unit,_,K=>K []
 | .ptr t,d,K=>YK t d fun cs=>K [.fptr cs]
 | .fn f t,d,K=>YK t d fun cs=>K [.fn f cs]
 | .nptr t,d,K=>K [.nptr t d]
 | .mp k v,d,K=>K [.mp k v d]
 | .pair _ _,d,K=>splitK d fun x y=>YK _ x fun c1=>YK _ y fun c2=>Ze9 c1 c2 K
theorem Z6:∀ (t:Ty) (d:t.den) (K:List SV→Prop),YK t d K=K (VY t d)
 | .int _,_,_=>rfl
 | .bool,_,_=>rfl
 | .str,_,_=>rfl
 | .sl _,_,_=>rfl
 | .unit,_,_=>rfl
 | .ptr t,d,K=>by simp [YK,VY,Z6 t]
 | .fn f t,d,K=>by simp [YK,VY,Z6 t]
 | .nptr t,d,K=>rfl
 | .mp k v,d,K=>rfl
 | .pair a b,d,K=>by simp [YK,VY,Y0,Z6 a,Z6 b,XW]
def ZaS {α:Type} (d:List α) (i:Int) (K:α→Prop):Prop:=0≤i∧i<(d.length:Int)∧∀ x,d[i.toNat]?=some x→K x
def Zbq:Value→Option SV
 | .int k n=>some (.int k n)
 | .bool b=>some (.blit b)
 | .string s=>some (.str s.data.toList)
 | .slice none 0 0=>some .nsl
 | .pointer none=>some .nilp
 | .map none=>some (.mp .unit .unit [])
 | _=>none
theorem Zcx (E:Env) (v:Value) (s:SV) (h:Zbq v=some s):den E s v:=by
 unfold Zbq at h
 split at h<;>simp at h<;>subst h<;>simp [den,rep]
def V7:List Value→Option (List SV)
 | []=>some []
 | v::r=>match Zbq v,V7 r with
  | some s,some l=>some (s::l)
  | _,_=>none
theorem JO (E:Env):∀ (vs:List Value) (cs:List SV),V7 vs=some cs→Zy E cs vs
 | [],cs,h=>by simp [V7] at h;subst h;trivial
 | v::r,cs,h=>by
  simp only [V7] at h
  split at h
  ·rename_i s l h1 h2
   simp at h;subst h
   exact ⟨Zcx E v s h1,JO E r l h2⟩
  ·simp at h
def ZiO (v:Value) (K:SV→Prop):Prop :=
 match v with
 | .agg cs=>match V7 cs.toList with
  | some l=>K (.agg l)
  | none=>False
 | v=>match Zbq v with
  | some s=>K s
  | none=>False
theorem ZiP (E:Env) (v:Value) (K:SV→Prop) (h:ZiO v K):∃ s,den E s v∧K s:=by
 unfold ZiO at h
 split at h
 ·rename_i cs
  split at h
  ·rename_i l hl
   exact ⟨.agg l,by simp only [den];exact ⟨cs.toList,by simp,JO E _ _ hl⟩,h⟩
  ·exact h.elim
 ·split at h
  ·rename_i s hs;exact ⟨s,Zcx E _ s hs,h⟩
  ·exact h.elim
def ZdU (v:Value) (K:List SV→Prop):Prop :=
 match V7 v.cells.toList with
 | some l=>K l
 | none=>False
theorem V6 (E:Env) (v:Value) (K:List SV→Prop) (h:ZdU v K):∃ l,Zy E l v.cells.toList∧K l:=by
 unfold ZdU at h
 split at h
 ·rename_i l hl;exact ⟨l,JO E _ _ hl,h⟩
 ·exact h.elim
def Xe (regs:List SV) (o:Operand) (K:SV→Prop):Prop :=
 match o with
 | .tmp t=>ZcL regs t K
 | .const v=>ZiO v K
 | .func f=>K (.fn f [])
 | .global _=>False
theorem ZE {E:Env} {regs:List SV} {a:Act} (hd:Zy E regs a.tmps.toList) {o:Operand} {K:SV→Prop} (h:Xe regs o K):∃ s,den E s (a.eval o)∧K s:=by
 cases o with
 | tmp t =>
  obtain ⟨s,v,h1,h2,h3,_⟩:=Qr _ _ hd h
  refine ⟨s,?_,h3⟩
  have:a.eval (.tmp t)=v:=by
   have h1':a.tmps[t]?=some v:=by simpa using h1
   simp [Act.eval,h1']
  rw [this];exact h2
 | const v=>exact ZiP E v K h
 | func f=>exact ⟨_,by simp only [den];exact ⟨[],by simp [Act.eval],trivial⟩,h⟩
 | global g=>exact h.elim
end Go.Sx
