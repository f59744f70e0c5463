/-
  The operations of the machine, run on symbolic values: what each asks (a proposition) and what it leaves; and that it is so.
-/
import Derived.Test.YtgjjlgodlhhdoaaGreatDoorSxLoose
namespace Go.Sx
set_option linter.unusedVariables false
set_option linter.unusedSimpArgs false
inductive TK
 | int (k:IntKind)
 | bool
 | str
 | sl
 | arr (n:Nat)
 | st
 | ptr
 | mp (k e:TypeId)
 | oth
def Zq4:TypeDesc->TK
 | .int k=>.int k
 | .bool=>.bool
 | .string=>.str
 | .slice _=>.sl
 | .array n _=>.arr n
 | .struct _=>.st
 | .pointer _=>.ptr
 | .map k e=>.mp k e
 | _=>.oth
def TK.agg:TK->Bool
 | .st=>true
 | .arr _=>true
 | _=>false
def TK.ZxI:TK->Bool
 | .st=>true
 | _=>false
inductive EqD
 | nil
 | int (k:IntKind) (o:Nat) (r:EqD)
 | bool (o:Nat) (r:EqD)
 | str (o:Nat) (r:EqD)
 | st (o sz:Nat) (fs r:EqD)
def ZpG (k:IntKind):Option TypeDesc->Bool
 | some (.int k')=>decide (k'=k)
 | _=>false
def ZmC:Option TypeDesc->Bool
 | some .bool=>true
 | _=>false
def ZpH:Option TypeDesc->Bool
 | some .string=>true
 | _=>false
def EqD.fits (P:Program):EqD->List Field->Bool
 | .nil,fl=>fl.isEmpty
 | .int k o r,fl=>match fl with
  | []=>false
  | f::fl=>f.name != "_" && f.offset == o&&ZpG k (P.underlying f.type)&&r.fits P fl
 | .bool o r,fl=>match fl with
  | []=>false
  | f::fl=>f.name != "_" && f.offset == o&&ZmC (P.underlying f.type)&&r.fits P fl
 | .str o r,fl=>match fl with
  | []=>false
  | f::fl=>f.name != "_" && f.offset == o&&ZpH (P.underlying f.type)&&r.fits P fl
 | .st o sz fs r,fl=>match fl with
  | []=>false
  | f::fl=>f.name != "_" && f.offset == o&&(match P.underlying f.type with
    | some (.struct gs)=>!P.stoodInHeld f.type&&fs.fits P gs.toList
    | _=>false)&&(P.info? f.type).map (·.size) == some sz&&r.fits P fl
def EqD.isNil:EqD->Bool
 | .nil=>true
 | _=>false
structure TI where
 size:Nat
 bytes:Nat
 zero:Value
 kind:TK
 flds:List (Nat×Nat×Bool):=[]
 elem:TypeId:=0
 esize:Nat:=0
 ebytes:Nat:=0
 ezero:Value:=undef
 eagg:Bool:=false
 ty:Ty:=.unit
 ety:Ty:=.unit
 eqd:EqD:=.nil
 edp:Option Dp:=none
 cut:Bool:=false
def ZeW:TypeDesc->Bool
 | .struct _=>true
 | .array _ _=>true
 | _=>false
structure ZbB (P:Program) (T:TypeId) (ti:TI):Prop where
 info:(P.info? T).map (λi=>(i.size,i.bytes,i.zero))=some (ti.size,ti.bytes,some ti.zero)
 kind:(P.underlying T).map Zq4=some ti.kind
 flds:(match P.underlying T with
  | some (.struct fs)=>fs.toList.map (λf=>(f.offset,(P.info? f.type).map (·.size),(P.underlying f.type).map ZeW))
  | _=>[])=ti.flds.map (λx=>(x.1,some x.2.1,some x.2.2))
 elem:(match P.underlying T with
  | some (.slice e)=>some (e,(P.info? e).map (λi=>(i.size,i.bytes,i.zero)),((P.underlying e).map ZeW))
  | some (.array _ e)=>some (e,(P.info? e).map (λi=>(i.size,i.bytes,i.zero)),((P.underlying e).map ZeW))
  | _=>none)=(match ti.kind with
  | .sl=>some (ti.elem,some (ti.esize,ti.ebytes,some ti.ezero),some ti.eagg)
  | .arr _=>some (ti.elem,some (ti.esize,ti.ebytes,some ti.ezero),some ti.eagg)
  | _=>none)
 eqd:(ti.eqd.isNil||match P.underlying T with
  | some (.struct fs)=>!P.stoodInHeld T&&ti.eqd.fits P fs.toList&&!P.eqGuardType P.depth T
  | _=>false)=true
abbrev Tab:=List (Nat×TI)
def Tab.ok (Δ:Tab) (P:Program):Prop:=∀ x∈Δ,ZbB P x.1 x.2
def Zbq:Tab->Nat->(TI->Prop)->Prop
 | [],_,_=>False
 | (n,ti)::r,T,K=>if n=T then K ti else Zbq r T K
theorem YV {P:Program}:∀ (Δ:Tab),Δ.ok P->∀ {T:Nat} {K:TI->Prop},Zbq Δ T K->∃ ti,ZbB P T ti/\K ti
 | [],_,_,_,h=>h.elim
 | (n,ti)::r,hΔ,T,K,h=>by
  unfold Zbq at h;split at h
  ·rename_i e;subst e;exact ⟨ti,hΔ (n,ti) (by simp),h⟩
  ·exact YV r (λx hx=>hΔ x (by simp[hx])) h
def ZjA:List SV->Nat->(SV->Prop)->Prop
 | [],_,_=>False
 | s::_,0,K=>K s
 | _::r,n+1,K=>ZjA r n K
theorem Zao {E:Env}:∀ (cs:List SV) (vs:List Value),ZT E cs vs->∀ {n:Nat} {K:SV->Prop},ZjA cs n K->∃ s v,vs[n]?=some v/\den E s v/\K s/\cs[n]?=some s
 | [],_,_,_,_,h=>h.elim
 | c::cs,v::vs,hd,0,K,h=>by simp only[ZT] at hd;exact ⟨c,v,rfl,hd.1,h,rfl⟩
 | c::cs,v::vs,hd,n+1,K,h=>by simp only[ZT] at hd;simpa using Zao cs vs hd.2 (n:=n) h
 | _::_,[],hd,_,_,_=>by simp[ZT] at hd
def Zq0:List SV->Nat->SV->(List SV->Prop)->Prop
 | [],_,_,K=>K []
 | _::r,0,s,K=>K (s::r)
 | x::r,n+1,s,K=>Zq0 r n s λr'=>K (x::r')
theorem Zc9:∀ (cs:List SV) (n:Nat) (s:SV) (K:List SV->Prop),Zq0 cs n s K=K (cs.set n s)
 | [],_,_,_=>rfl
 | _::_,0,_,_=>rfl
 | x::r,n+1,s,K=>by simp[Zq0,Zc9 r n s]
def Zmi {α:Type}:List α->List α->(List α->Prop)->Prop
 | [],l,K=>K l
 | x::r,l,K=>Zmi r l λr'=>K (x::r')
theorem Ju {α:Type}:∀ (cs l:List α) (K:List α->Prop),Zmi cs l K=K (cs++l)
 | [],_,_=>rfl
 | x::r,l,K=>by simp[Zmi,Ju r l]
def Zgj {α:Type}:List α->Nat->(List α->Prop)->Prop
 | l,0,K=>K l
 | [],_+1,K=>K []
 | _::r,n+1,K=>Zgj r n K
theorem ZaN {α:Type}:∀ (cs:List α) (n:Nat) (K:List α->Prop),Zgj cs n K=K (cs.drop n)
 | l,0,_=>by cases l<;>rfl
 | [],_+1,_=>rfl
 | _::r,n+1,K=>by simp[Zgj,ZaN r n]
def Zlz {α:Type}:List α->Nat->(List α->Prop)->Prop
 | _,0,K=>K []
 | [],_+1,K=>K []
 | x::r,n+1,K=>Zlz r n λr'=>K (x::r')
theorem ZfT {α:Type}:∀ (cs:List α) (n:Nat) (K:List α->Prop),Zlz cs n K=K (cs.take n)
 | l,0,_=>by cases l<;>rfl
 | [],_+1,_=>rfl
 | x::r,n+1,K=>by simp[Zlz,ZfT r n]
def Zoj {α:Type}:List α->Nat->(Nat->Prop)->Prop
 | [],n,K=>K n
 | _::r,n,K=>Zoj r (n+1) K
theorem Zax {α:Type}:∀ (l:List α) (n:Nat) (K:Nat->Prop),Zoj l n K=K (n+l.length)
 | [],_,_=>rfl
 | _::r,n,K=>by simp[Zoj,Zax r (n+1),Nat.add_assoc,Nat.add_comm 1]
def ZeE:List Entry->Nat->(Entry->Prop)->Prop
 | [],_,_=>False
 | s::_,0,K=>K s
 | _::r,n+1,K=>ZeE r n K
theorem Yy:∀ (H:List Entry) {n:Nat} {K:Entry->Prop},ZeE H n K->∃ e,H[n]?=some e/\K e
 | [],_,_,h=>h.elim
 | e::_,0,K,h=>⟨e,rfl,h⟩
 | _::r,n+1,K,h=>by simpa using Yy r (n:=n) h
def Zfk:List Entry->Nat->Entry->(List Entry->Prop)->Prop
 | [],_,_,K=>K []
 | _::r,0,s,K=>K (s::r)
 | x::r,n+1,s,K=>Zfk r n s λr'=>K (x::r')
theorem YU:∀ (cs:List Entry) (n:Nat) (s:Entry) (K:List Entry->Prop),Zfk cs n s K=K (cs.set n s)
 | [],_,_,_=>rfl
 | _::_,0,_,_=>rfl
 | x::r,n+1,s,K=>by simp[Zfk,YU r n s]
def Qq:(t:Ty)->t.den->(List SV->Prop)->Prop
 | .int k,n,K=>K [.int k n]
 | .bool,b,K=>K [.bool b]
 | .str,s,K=>K [.str s]
 | .sl t,l,K=>K [.sl t l]
 | .unit,_,K=>K []
 | .ptr t,d,K=>Qq t d λcs=>K [.fptr cs]
 | .fn f t,d,K=>Qq t d λcs=>K [.fn f cs]
 | .nptr t,d,K=>K [.nptr t d]
 | .mp k v,d,K=>K [.mp k v d]
 | .pair _ _,d,K=>splitK d λx y=>Qq _ x λc1=>Qq _ y λc2=>Zmi c1 c2 K
theorem Xr:∀ (t:Ty) (d:t.den) (K:List SV->Prop),Qq t d K=K (ZdP t d)
 | .int _,_,_=>rfl
 | .bool,_,_=>rfl
 | .str,_,_=>rfl
 | .sl _,_,_=>rfl
 | .unit,_,_=>rfl
 | .ptr t,d,K=>by simp[Qq,ZdP,Xr t]
 | .fn f t,d,K=>by simp[Qq,ZdP,Xr t]
 | .nptr t,d,K=>rfl
 | .mp k v,d,K=>rfl
 | .pair a b,d,K=>by simp[Qq,ZdP,QK,Xr a,Xr b,Ju]
def ZgM {α:Type} (d:List α) (i:Int) (K:α->Prop):Prop:=0<=i/\i<(d.length:Int)/\∀ x,d[i.toNat]?=some x->K x
def ZhF:Value->Option SV
 | .int k n=>some (.int k n)
 | .bool b=>some (.blit b)
 | .string s=>some (.str s.data.toList)
 | .slice none 0 0=>some .nsl
 | .pointer none=>some .nilp
 | .map none=>some (.mp .unit .unit [])
 | _=>none
theorem ZiX (E:Env) (v:Value) (s:SV) (h:ZhF v=some s):den E s v:=by
 unfold ZhF at h;split at h<;>simp at h<;>subst h<;>simp[den,rep]
def Zea:List Value->Option (List SV)
 | []=>some []
 | v::r=>match ZhF v,Zea r with
  | some s,some l=>some (s::l)
  | _,_=>none
theorem Zfq (E:Env):∀ (vs:List Value) (cs:List SV),Zea vs=some cs->ZT E cs vs
 | [],cs,h=>by simp[Zea] at h;subst h;trivial
 | v::r,cs,h=>by
  simp only[Zea] at h;split at h
  ·rename_i s l h1 h2
   simp at h;subst h;exact ⟨ZiX E v s h1,Zfq E r l h2⟩
  ·simp at h
def Zrz (v:Value) (K:SV->Prop):Prop :=
 match v with
 | .agg cs=>match Zea cs.toList with
  | some l=>K (.agg l)
  | none=>False
 | v=>match ZhF v with
  | some s=>K s
  | none=>False
theorem ZrA (E:Env) (v:Value) (K:SV->Prop) (h:Zrz v K):∃ s,den E s v/\K s:=by
 unfold Zrz at h;split at h
 ·rename_i cs
  split at h
  ·rename_i l hl
   exact ⟨.agg l,by simp only[den];exact ⟨cs.toList,by simp,Zfq E _ _ hl⟩,h⟩
  ·exact h.elim
 ·split at h
  ·rename_i s hs;exact ⟨s,ZiX E _ s hs,h⟩
  ·exact h.elim
def Zk9 (v:Value) (K:List SV->Prop):Prop :=
 match Zea v.cells.toList with
 | some l=>K l
 | none=>False
theorem Zd9 (E:Env) (v:Value) (K:List SV->Prop) (h:Zk9 v K):∃ l,ZT E l v.cells.toList/\K l:=by
 unfold Zk9 at h;split at h
 ·rename_i l hl;exact ⟨l,Zfq E _ _ hl,h⟩
 ·exact h.elim
def Vh (regs:List SV) (o:Operand) (K:SV->Prop):Prop :=
 match o with
 | .tmp t=>ZjA regs t K
 | .const v=>Zrz v K
 | .func f=>K (.fn f [])
 | .global _=>False
theorem Yb {E:Env} {regs:List SV} {a:Act} (hd:ZT E regs a.tmps.toList) {o:Operand} {K:SV->Prop} (h:Vh regs o K):∃ s,den E s (a.eval o)/\K s:=by
 cases o with
 | tmp t =>
  obtain ⟨s,v,h1,h2,h3,_⟩:=Zao _ _ hd h;refine ⟨s,?_,h3⟩;have:a.eval (.tmp t)=v:=by
   have h1':a.tmps[t]?=some v:=by simpa using h1
   simp[Act.eval,h1']
  rw[this];exact h2
 | const v=>exact ZrA E v K h
 | func f=>exact ⟨_,by simp only[den];exact ⟨[],by simp[Act.eval],trivial⟩,h⟩
 | global g=>exact h.elim
end Go.Sx
