/-
  Lengths, parts of lists and strings, conversions, min and max.
-/
import Derived.Test.YtnnbgbgapogckaaGreatDoorSxOps7
namespace Go.Sx
set_option linter.unusedVariables false
set_option linter.unusedSimpArgs false
section
variable {P:Program}
def ZnY (ti:TI) (x:SV) (H:List Entry) (K:SV→Prop):Prop :=
 match ti.kind with
 | .sl=>match x with
  | .sl _ d=>K (.int .i64 (d.length:Int))
  | .nsl=>K (.int .i64 0)
  | .own id=>Jk H id fun e=>match e with
   | .arr _ _ d=>K (.int .i64 (d.length:Int))
   | .frz _ d=>K (.int .i64 (d.length:Int))
   | .darr _ _ d _=>K (.int .i64 (d.length:Int))
   | .hole _ _ d _ _ _=>K (.int .i64 (d.length:Int))
   | .spl _ _ d _ _=>K (.int .i64 (d.length:Int))
   | .hsp _ _ d _ _ _=>K (.int .i64 (d.length:Int))
   | _=>False
  | _=>False
 | .str=>match x with
  | .str s=>K (.int .i64 (s.length:Int))
  | _=>False
 | .arr n=>K (.int .i64 (n:Int))
 | _=>False
theorem Q6.string {T:TypeId} {ti:TI} (h:Q6 P T ti) (hk:ti.kind=.str):P.underlying T=some .string:=by
 obtain ⟨d,hd,hk'⟩:=h.get
 rw [hk] at hk'
 cases d<;>simp [Zio] at hk'
 exact hd
theorem Q6.intOf {T:TypeId} {ti:TI} (h:Q6 P T ti) {k:IntKind} (hk:ti.kind=.int k):P.underlying T=some (.int k):=by
 obtain ⟨d,hd,hk'⟩:=h.get
 rw [hk] at hk'
 cases d<;>simp [Zio] at hk'
 subst hk';exact hd
theorem ZlV {B:Base} {E:Env} {H:List Entry} (hI:Inv B E H) {T ty:TypeId} {ti:TI} (h:Q6 P T ti) {x:SV} {v:Value} (hx:den E x v) {K:SV→Prop} (hk:ZnY ti x H K) :
  ∃ u s,ZdX P (Builtin.len_ #[T] ty #[v]) u∧den E s u∧K s:=by
 unfold ZnY at hk
 have sl:∀ (a:Option Addr) (n c:Nat),ti.kind=.sl→v=.slice a n c→K (.int .i64 (n:Int))→∃ u s,ZdX P (Builtin.len_ #[T] ty #[v]) u∧den E s u∧K s:=by
  intro a n c hd hv hk
  subst hv
  have hu:=(h.slice hd).1
  exact ⟨_,_,fun w=>by simp [Builtin.len_,run_underlying hu];rfl,XY E .i64 n,hk⟩
 split at hk
 ·rename_i hd
  split at hk
  ·rename_i t d
   simp only [den] at hx
   obtain ⟨a,cap,e1,_⟩:=hx
   simp at e1
   exact sl a _ cap hd e1 hk
  ·simp only [den] at hx
   exact sl none 0 0 hd hx hk
  ·rename_i id
   obtain ⟨en,he,hk⟩:=ZK H hk
   simp only [den] at hx
   split at hk
   ·rename_i et t d
    obtain ⟨v',xs,e1,h2,h3⟩:=hI.ent id _ he
    have:=hx.1.symm.trans e1;simp at this;subst this
    rcases h2.2 with ⟨rfl,hn⟩ | ⟨g,cap,cur,o,rfl,_⟩
    ·rw [hn] at hk;exact sl _ _ _ hd rfl hk
    ·exact sl _ _ _ hd rfl hk
   ·rename_i t d
    obtain ⟨v',e1,h2⟩:=hI.ent id _ he
    have:=hx.1.symm.trans e1;simp at this;subst this
    obtain ⟨a,cap,e1,_⟩:=h2
    simp at e1
    exact sl a _ cap hd e1 hk
   ·rename_i et e d fp
    obtain ⟨v',xs,fps,e1,h2,h3⟩:=hI.ent id _ he
    have:=hx.1.symm.trans e1;simp at this;subst this
    rcases h2.2 with ⟨rfl,hn⟩ | ⟨g,cap,cur,o,rfl,_⟩
    ·rw [hn] at hk;exact sl _ _ _ hd rfl hk
    ·exact sl _ _ _ hd rfl hk
   ·rename_i et e d j cs fp
    obtain ⟨v',xs,x1,vx,x2,f1,f2,e1,h2,h3⟩:=hI.ent id _ he
    have:=hx.1.symm.trans e1;simp at this;subst this
    rcases h2.2 with ⟨rfl,hn⟩ | ⟨g,cap,cur,o,rfl,_⟩
    ·rw [hn] at hk;exact sl _ _ _ hd rfl hk
    ·exact sl _ _ _ hd rfl hk
   ·rename_i et e d n fp
    obtain ⟨v',e1,⟨xs,x1,x2,f1,h2,h3⟩,_⟩:=hI.ent id _ he
    have:=hx.1.symm.trans e1;simp at this;subst this
    rcases h2.2 with ⟨rfl,hn⟩ | ⟨g,cap,cur,o,rfl,_⟩
    ·rw [hn] at hk;exact sl _ _ _ hd rfl hk
    ·exact sl _ _ _ hd rfl hk
   ·rename_i et e d j cs fp
    obtain ⟨v',xs,x1,vx,x2,f1,e1,h2,h3⟩:=hI.ent id _ he
    have:=hx.1.symm.trans e1;simp at this;subst this
    rcases h2.2 with ⟨rfl,hn⟩ | ⟨g,cap,cur,o,rfl,_⟩
    ·rw [hn] at hk;exact sl _ _ _ hd rfl hk
    ·exact sl _ _ _ hd rfl hk
   ·exact hk.elim
  ·exact hk.elim
 ·rename_i hd
  split at hk
  ·rename_i s
   simp only [den] at hx;subst hx
   refine ⟨_,_,?_,XY E .i64 s.length,hk⟩
   have hu:=h.string hd
   have hsz:(⟨s.toArray⟩:ByteArray).size=s.length:=by simp [ByteArray.size]
   intro w
   simp only [Builtin.len_,List.getElem?_toArray,List.getElem?_cons_zero,Sem.run_bind,run_underlying hu,Result.andThen_ok,hsz]
   rfl
  ·exact hk.elim
 ·rename_i n hd
  refine ⟨_,_,?_,XY E .i64 n,hk⟩
  have hu:=(h.array hd).1
  intro w
  cases v<;>simp [Builtin.len_,run_underlying hu,goInt]
 ·exact hk.elim
theorem ZkL (x y:Int):(if y<x then y else x)=min x y:=by omega
theorem ZkK (x y:Int):(if y > x then y else x)=max x y:=by omega
def ZmO (mx:Bool):SV→List SV→(SV→Prop)→Prop
 | s,[],K=>K s
 | .int k x,.int _ y::r,K=>ZmO mx (.int k (if mx then max x y else min x y)) r K
 | _,_::_,_=>False
theorem ZgY {E:Env} {mx:Bool}:∀ (cs:List SV) (s:SV) (v:Value) (vs:List Value),den E s v→Zy E cs vs→∀ {K:SV→Prop},ZmO mx s cs K→
  ∃ u r,(∀ w,(vs.foldlM (if mx then Builtin.max2 else Builtin.min2) v).run P w=.ok u w)∧den E r u∧K r
 | [],s,v,vs,hs,hd,K,hk=>by
  match vs,hd with
  | [],_=>exact ⟨v,s,fun _=>rfl,hs,by cases s<;>exact hk⟩
  | _::_,hd=>simp [Zy] at hd
 | c::cs,s,v,vs,hs,hd,K,hk=>by
  match vs,hd with
  | [],hd=>simp [Zy] at hd
  | u::vs,hd =>
   simp only [Zy] at hd
   unfold ZmO at hk
   split at hk
   ·simp at *
   ·rename_i k x k' y r e1
    simp at e1
    obtain ⟨rfl,rfl⟩:=e1
    have hu:=hd.1
    simp only [den] at hs hu
    subst hs;subst hu
    obtain ⟨u',r',h1,h2,h3⟩:=ZgY cs _ (.int k (if mx then max x y else min x y)) vs (XY E k _) hd.2 hk
    refine ⟨u',r',?_,h2,h3⟩
    intro w
    have h1:=h1 w
    rw [List.foldlM_cons,Sem.run_bind]
    cases mx
    ·simp only [Bool.false_eq_true,if_false,Builtin.min2,ZkL,Sem.run_pure,Result.andThen_ok] at h1 ⊢;exact h1
    ·simp only [if_true,Builtin.max2,ZkK,Sem.run_pure,Result.andThen_ok] at h1 ⊢;exact h1
   ·exact hk.elim
def Zol (s:SV) (i:Nat) (K:SV→Prop):Prop :=
 match s with
 | .tup cs=>ZcL cs i K
 | _=>False
theorem Zmi {E:Env} {s:SV} {v:Value} (hs:den E s v) {i:Nat} {K:SV→Prop} (hk:Zol s i K):∃ u r,(∀ w,(Instr.extract v i).run P w=.ok u w)∧den E r u∧K r:=by
 unfold Zol at hk
 split at hk
 ·simp only [den] at hs
  obtain ⟨vs,rfl,hd⟩:=hs
  obtain ⟨r,u,h1,h2,h3,_⟩:=Qr _ _ hd hk
  exact ⟨u,r,fun w=>by simp [Instr.extract,h1],h2,h3⟩
 ·exact hk.elim
def bytesOf (d:List Int):List UInt8:=d.map fun n=>UInt8.ofNat n.toNat
def ZlJ (ts td:TI) (x:SV) (H:List Entry) (K:SV→Prop):Prop :=
 match td.kind,x with
 | .int k,.int _ n=>K (.int k (k.wrap n))
 | .str,.str s=>K (.str s)
 | _,_=>False
theorem Zkk {E:Env} {H:List Entry} {S T:TypeId} {ts td:TI} (hs:Q6 P S ts) (ht:Q6 P T td) {x:SV} {v:Value} (hx:den E x v) {K:SV→Prop} (hk:ZlJ ts td x H K) :
  ∃ u s,(∀ w,(convert S T v).run P w=.ok u w)∧den E s u∧K s:=by
 unfold ZlJ at hk
 obtain ⟨ds,h1,_⟩:=hs.get
 split at hk
 ·rename_i k k' n hd
  simp only [den] at hx;subst hx
  refine ⟨_,_,?_,XY E k _,hk⟩
  have h2:=ht.intOf hd
  intro w
  unfold convert
  rw [Sem.run_bind,run_underlying h1,Result.andThen_ok,Sem.run_bind,run_underlying h2,Result.andThen_ok]
  cases ds<;>rfl
 ·rename_i s hd
  simp only [den] at hx;subst hx
  refine ⟨_,_,?_,Zb3 E s,hk⟩
  have h2:=ht.string hd
  intro w
  unfold convert
  rw [Sem.run_bind,run_underlying h1,Result.andThen_ok,Sem.run_bind,run_underlying h2,Result.andThen_ok]
  cases ds<;>rfl
 ·exact hk.elim
def ZiQ (te:TI) (x:SV) (H:List Entry) (K:SV→Prop):Prop :=
 match te.kind with
 | .int .u8=>ZmT x H (fun t d=>if h:t=.int .u8 then ZhY h d fun d'=>K (.str (bytesOf d')) else False) (K (.str []))
 | _=>False
theorem ZcD {S:Nat→Prop} {w:World}:∀ (d:List Int) (xs:List Value),Yj (rep S w (.int .u8)) d xs→xs=d.map (Value.int .u8)
 | [],xs,h=>by cases h;rfl
 | n::d,_,⟨v1,v2,e,h1,h2⟩=>by
  have:=ZcD d v2 h2
  subst e;subst this
  have h1':v1=[.int .u8 n]:=h1
  subst h1';rfl
theorem Zdh:∀ (d:List Int) (s:List UInt8),d.foldl (fun (r:ByteArray) n=>r.push (UInt8.ofNat n.toNat)) (⟨s.toArray⟩:ByteArray)=⟨(s++bytesOf d).toArray⟩
 | [],s=>by simp [bytesOf]
 | n::d,s=>by
  have h:=Zdh d (s++[UInt8.ofNat n.toNat])
  have e:(⟨s.toArray⟩:ByteArray).push (UInt8.ofNat n.toNat)=⟨(s++[UInt8.ofNat n.toNat]).toArray⟩:=by
   simp [ByteArray.push]
  rw [List.foldl_cons,e,h]
  simp [bytesOf]
theorem ZiR {B:Base} {E:Env} {H:List Entry} (hI:Inv B E H) {S T:TypeId} {ts td te:TI} (hs:Q6 P S ts) (hks:ts.kind=.sl) (ht:Q6 P T td) (hkt:td.kind=.str) (hte:Q6 P ts.elem te) {x:SV} {v:Value} (hx:den E x v)
  {K:SV→Prop} (hk:ZiQ te x H K):∃ u s,(convert S T v).run P E.w=.ok u E.w∧den E s u∧K s:=by
 unfold ZiQ at hk
 split at hk
 ·rename_i hke
  obtain ⟨hu,_⟩:=hs.slice hks
  have he:=hte.intOf hke
  have hstr:=ht.string hkt
  have nil:v=.slice none 0 0→(convert S T v).run P E.w=.ok (.string ⟨([]:List UInt8).toArray⟩) E.w:=by
   rintro rfl
   rw [run_convert_bytes_string _ _ _ _ _ _ _ hu he hstr]
   rfl
  rcases Zhb hI hx hk with ⟨t,d,hl,hk⟩ | ⟨hv,hk⟩
  ·split at hk
   ·rename_i hte';subst hte'
    rw [Zhh] at hk
    rcases hl with ⟨hv,hd⟩ | ⟨ad,c,xs,hv,hlen,hc,hr⟩
    ·subst hd
     exact ⟨_,_,nil hv,Zb3 E _,hk⟩
    ·have hxs:=ZcD _ _ hr
     subst hv
     refine ⟨_,_,?_,Zb3 E _,hk⟩
     rw [run_convert_bytes_string _ _ _ _ _ _ _ hu he hstr]
     have hload:=run_loadCells_list (P:=P) E.w ad xs hc
     have hl1:xs.length=d.length:=by simpa [Ty.size] using hlen
     rw [hl1,hxs] at hload
     rw [run_bytesToString _ _ _ _ _ hload]
     have hf:=Zdh d []
     rw [List.nil_append] at hf
     rw [←hf]
     rfl
   ·exact hk.elim
  ·exact ⟨_,_,nil hv,Zb3 E _,hk⟩
 ·exact hk.elim
def int64?:SV→Option Int
 | .int .i64 n=>some n
 | _=>none
def Zf3:List SV→Option (List Int)
 | []=>some []
 | c::r=>match int64? c,Zf3 r with
  | some n,some l=>some (n::l)
  | _,_=>none
theorem Zkw {c:SV} {n:Int} (h:int64? c=some n):c=.int .i64 n:=by
 unfold int64? at h
 split at h
 ·injection h with h;subst h;rfl
 ·cases h
theorem Zf4 {E:Env}:∀ (cs:List SV) {l:List Int},Zf3 cs=some l→∀ vs,Zy E cs vs→vs=l.map (fun n=>Value.int .i64 n)
 | [],l,h,vs,hd=>by
  simp only [Zf3,Option.some.injEq] at h
  subst h
  cases vs with
  | nil=>rfl
  | cons v vs=>simp [Zy] at hd
 | c::cs,l,h,vs,hd=>by
  cases vs with
  | nil=>simp [Zy] at hd
  | cons v vs =>
   simp only [Zy] at hd
   obtain ⟨h1,h2⟩:=hd
   unfold Zf3 at h
   split at h
   ·rename_i n l' e1 e2
    injection h with h
    subst h
    have:=Zkw e1
    subst this
    simp only [den] at h1
    subst h1
    rw [Zf4 cs e2 vs h2]
    rfl
   ·cases h
def ZjV (ti:TI) (s si:SV) (K:SV→Prop):Prop :=
 match ti.kind,s,si with
 | .str,.str l,.int _ i=>ZaS l i fun c=>K (.int .u8 (c.toNat:Int))
 | .arr n,.agg cs,.int _ i=>match Zf3 cs with
  | some l=>if (!ti.eagg&&ti.esize == 1&&l.length == n)=true then ZaS l i fun c=>K (.int .i64 c) else False
  | none=>False
 | _,_,_=>False
theorem ZjW {E:Env} {T:TypeId} {ti:TI} (h:Q6 P T ti) {s si:SV} {v vi:Value} (hs:den E s v) (hsi:den E si vi) {K:SV→Prop} (hk:ZjV ti s si K) :
  ∃ u r,(∀ w,(Instr.index T v vi).run P w=.ok u w)∧den E r u∧K r:=by
 unfold ZjV at hk
 split at hk
 ·rename_i l k i hd
  simp only [den] at hs hsi;subst hs;subst hsi
  obtain ⟨h0,h1,h2⟩:=hk
  obtain ⟨c,hc⟩:∃ c,l[i.toNat]?=some c:=⟨_,List.getElem?_eq_getElem (by omega)⟩
  refine ⟨_,_,?_,XY E .u8 _,h2 c hc⟩
  have hu:=h.string hd
  have hlt:i.toNat<(⟨l.toArray⟩:ByteArray).size:=by simp [ByteArray.size];omega
  have hb:(⟨l.toArray⟩:ByteArray)[i.toNat]?=some c:=by
   have hx:(⟨l.toArray⟩:ByteArray)[i.toNat]'hlt=c:=by
    have:=(List.getElem?_eq_some_iff.1 hc).2
    rw [←this];rfl
   rw [←hx]
   exact getElem?_pos (⟨l.toArray⟩:ByteArray) i.toNat hlt
  intro w
  simp [Instr.index,asIntOf,run_underlying hu,h0,hb]
 ·rename_i n cs k i hd
  simp only [den] at hs hsi
  obtain ⟨vs,rfl,hds⟩:=hs
  subst hsi
  split at hk
  ·rename_i l hl
   split at hk
   ·rename_i hq
    simp only [Bool.and_eq_true,Bool.not_eq_true',beq_iff_eq] at hq
    obtain ⟨⟨hea,hes⟩,hln⟩:=hq
    have hv:=Zf4 cs hl vs hds
    obtain ⟨h0,h1,h2⟩:=hk
    obtain ⟨c,hc⟩:∃ c,l[i.toNat]?=some c:=⟨_,List.getElem?_eq_getElem (by omega)⟩
    refine ⟨_,_,?_,XY E .i64 c,h2 c hc⟩
    obtain ⟨hu,hag,inf,hi,hsz,_,_⟩:=h.array hd
    have hagg:∀ w,(isAgg ti.elem).run P w=.ok false w:=by
     intro w
     cases hud:P.underlying ti.elem with
     | none=>simp [hud] at hag
     | some d =>
      rw [hud] at hag
      have hag:Jt d=ti.eagg:=by simpa using hag
      rw [hea] at hag
      unfold isAgg
      rw [Sem.run_bind,run_underlying hud]
      simp only [Result.andThen_ok,←hag]
      cases d<;>rfl
    have hcell:vs[i.toNat*inf.size]?=some (.int .i64 c):=by
     rw [hsz,hes,Nat.mul_one,hv]
     simp [hc]
    have h1':i<(n:Int):=by omega
    intro w
    simp [Instr.index,asIntOf,run_underlying hu,h0,h1',part,hagg,run_sizeOf hi,hcell]
   ·exact hk.elim
  ·exact hk.elim
 ·exact hk.elim
def Ji (regs:List SV) (o:Option Operand) (dflt:Int) (K:Int→Prop):Prop :=
 match o with
 | none=>K dflt
 | some x=>Xe regs x fun s=>match s with
  | .int _ n=>K n
  | _=>False
def Zgn (ti:TI) (regs:List SV) (x:SV) (lo hi:Option Operand) (H:List Entry) (K:SV→List Entry→Prop):Prop :=
 match ti.kind with
 | .sl=>match x with
  | .sl t d=>if t.size=ti.esize then Ji regs lo 0 fun l=>Ji regs hi d.length fun h=>0≤l∧l≤h∧h≤(d.length:Int)∧K (.sl t ((d.drop l.toNat).take (h.toNat-l.toNat))) H else False
  | .own id=>Jk H id fun e=>match e with
   | .arr _ t d=>if t.size=ti.esize then Ji regs lo 0 fun l=>Ji regs hi d.length fun h=>0≤l∧l≤h∧h≤(d.length:Int)∧
     JL H id (.frz t d) fun H'=>K (.sl t ((d.drop l.toNat).take (h.toNat-l.toNat))) H' else False
   | .frz t d=>if t.size=ti.esize then Ji regs lo 0 fun l=>Ji regs hi d.length fun h=>0≤l∧l≤h∧h≤(d.length:Int)∧K (.sl t ((d.drop l.toNat).take (h.toNat-l.toNat))) H else False
   | _=>False
  | .nsl=>Ji regs lo 0 fun l=>Ji regs hi 0 fun h=>l=0∧h=0∧K .nsl H
  | _=>False
 | .str=>match x with
  | .str s=>Ji regs lo 0 fun l=>Ji regs hi s.length fun h=>0≤l∧l≤h∧h≤(s.length:Int)∧K (.str ((s.drop l.toNat).take (h.toNat-l.toNat))) H
  | _=>False
 | _=>False
theorem Qa {E:Env} {regs:List SV} {a:Act} (hd:Zy E regs a.tmps.toList) {o:Option Operand} {dflt:Int} {K:Int→Prop} (h:Ji regs o dflt K) :
  ∃ n,K n∧(o=none∧n=dflt∨∃ k,o.map a.eval=some (.int k n)):=by
 unfold Ji at h
 split at h
 ·exact ⟨dflt,h,.inl ⟨rfl,rfl⟩⟩
 ·rename_i x
  obtain ⟨s,hs,h⟩:=ZE hd h
  split at h
  ·rename_i k n
   simp only [den] at hs
   exact ⟨n,h,.inr ⟨k,by simp [hs]⟩⟩
  ·exact h.elim
theorem run_sliceBound (w:World) (k:IntKind) (n:Int) (y:Nat) (c:BoundsCode) (h0:0≤n) (h1:n≤(y:Int)):(Instr.sliceBound (.int k n) y c).run P w=.ok n.toNat w:=by
 have:0≤n∧n≤(y:Int):=⟨h0,h1⟩
 simp [Instr.sliceBound,asIntOf,this]
theorem Vv (w:World) (sl:Bool) (len cap:Nat) (lo hi:Option Value) (l h:Int) (h0:0≤l) (h1:l≤h) (h2:h≤(cap:Int))
  (hl:lo=none∧l=0∨∃ k,lo=some (.int k l)) (hh:hi=none∧h=(len:Int)∨∃ k,hi=some (.int k h)) :
  (Instr.sliceBounds sl len cap lo hi none).run P w=.ok (l.toNat,h.toNat,cap) w:=by
 have e1:∀ c,(match hi with | some v=>Instr.sliceBound v cap c | none=>pure len:Sem Nat).run P w=.ok h.toNat w:=by
  intro c
  rcases hh with ⟨rfl,rfl⟩ | ⟨k,rfl⟩
  ·simp
  ·exact run_sliceBound w k h cap _ (by omega) h2
 have e2:∀ c,(match lo with | some v=>Instr.sliceBound v h.toNat c | none=>pure 0:Sem Nat).run P w=.ok l.toNat w:=by
  intro c
  rcases hl with ⟨rfl,rfl⟩ | ⟨k,rfl⟩
  ·simp
  ·exact run_sliceBound w k l _ _ h0 (by omega)
 rcases hh with ⟨rfl,rfl⟩ | ⟨k,rfl⟩
 ·rcases hl with ⟨rfl,rfl⟩ | ⟨k',rfl⟩
  ·simp [Instr.sliceBounds]
  ·simp [Instr.sliceBounds,run_sliceBound w k' l _ _ h0 h1]
 ·have a1:=run_sliceBound (P:=P) w k h cap (if sl then .sliceAcap else .sliceAlen) (by omega) h2
  rcases hl with ⟨rfl,rfl⟩ | ⟨k',rfl⟩
  ·simp [Instr.sliceBounds,a1]
  ·have a2:=run_sliceBound (P:=P) w k' l h.toNat .sliceB h0 (by omega)
   simp [Instr.sliceBounds,a1,a2]
theorem ZkU {S:Nat→Prop} {w:World} {t:Ty} {d:List t.den} {a:Option Addr} {n cap:Nat} (h:rep S w (.sl t) d [.slice a n cap]) (l h':Nat) (h1:l≤h') (h2:h'≤d.length) :
  n=d.length∧d.length≤cap∧rep S w (.sl t) ((d.drop l).take (h'-l)) [.slice (if cap=l then a else a.map (·.add (l*t.size))) (h'-l) (cap-l)]:=by
 obtain ⟨a',cap',e1,hle,hn,h3⟩:=h
 simp at e1
 obtain ⟨rfl,rfl,rfl⟩:=e1
 refine ⟨rfl,hle,?_⟩
 have hlen:((d.drop l).take (h'-l)).length=h'-l:=by simp;omega
 refine ⟨_,cap-l,by rw [hlen],by rw [hlen];omega,fun e=>?_,?_⟩
 ·split at e
  ·have:=hn e;omega
  ·cases a with
   | none=>have:=hn rfl;omega
   | some p=>simp at e
 ·by_cases he:h'=l
  ·exact .inl (List.eq_nil_of_length_eq_zero (by rw [hlen];omega))
  ·rcases h3 with h3 | ⟨p,xs,rfl,hp,hS,hc,hr⟩
   ·subst h3;simp at h2;omega
   ·refine .inr ⟨p.add (l*t.size),(xs.drop (l*t.size)).take ((h'-l)*t.size),?_,Ze6 _ _ hp,by rw [add_block];exact hS,fun j u hu=>?_,?_⟩
    ·rw [if_neg (by omega)];rfl
    ·rw [add_add _ _ _ hp]
     rw [List.getElem?_take] at hu
     split at hu
     ·exact hc _ u (by simpa using hu)
     ·cases hu
    ·have:=Zba (fun d vs=>Z4 t d vs) _ _ hr l
     exact Zbb (fun d vs=>Z4 t d vs) _ _ this (h'-l)
theorem ZdH {B:Base} {E:Env} {H:List Entry} (hI:Inv B E H) {regs:List SV} {a:Act} (hd:Zy E regs a.tmps.toList) {T:TypeId} {ti:TI} (h:Q6 P T ti) {x:SV} {v:Value} (hx:den E x v)
  {lo hi:Option Operand} {K:SV→List Entry→Prop} (hk:Zgn ti regs x lo hi H K) :
  ∃ u E' H' s,(Instr.sliceAt T v (lo.map a.eval) (hi.map a.eval) none).run P E.w=.ok u E'.w∧Inv B E' H'∧E.le E'∧den E' s u∧K s H'∧Grow E.w E'.w:=by
 unfold Zgn at hk
 have cvt:∀ {o:Option Operand} {n d:Int},(o=none∧n=d∨∃ k,o.map a.eval=some (.int k n))→(o.map a.eval=none∧n=d∨∃ k,o.map a.eval=some (.int k n)):=by
  intro o n d hh
  rcases hh with ⟨rfl,e⟩ | hh
  ·exact .inl ⟨rfl,e⟩
  ·exact .inr hh
 have core:ti.kind=.sl→∀ (E1:Env) (t:Ty) (d:List t.den),t.size=ti.esize→rep E1.S E1.w (.sl t) d [v]→∀ l h:Int,0≤l→l≤h→h≤(d.length:Int)→
   (lo.map a.eval=none∧l=0∨∃ k,lo.map a.eval=some (.int k l))→(hi.map a.eval=none∧h=(d.length:Int)∨∃ k,hi.map a.eval=some (.int k h))→
   ∃ u,(Instr.sliceAt T v (lo.map a.eval) (hi.map a.eval) none).run P E1.w=.ok u E1.w∧den E1 (.sl t ((d.drop l.toNat).take (h.toNat-l.toNat))) u:=by
  intro hdd E1 t d hts hr l h' h0 h1 h2 hl hh
  obtain ⟨hu,_,ie,hie,hsz,_⟩:=h.slice hdd
  obtain ⟨a0,cap,e1,hle,hn,h3⟩:=hr
  simp at e1;subst e1
  obtain ⟨_,_,hrp⟩:=ZkU (⟨a0,cap,rfl,hle,hn,h3⟩:rep E1.S E1.w (.sl t) d [.slice a0 d.length cap]) l.toNat h'.toNat (by omega) (by omega)
  refine ⟨.slice (if cap=l.toNat then a0 else a0.map (·.add (l.toNat*ie.size))) (h'.toNat-l.toNat) (cap-l.toNat),?_,?_⟩
  ·simp only [Instr.sliceAt,Instr.slice,Sem.run_bind,run_underlying hu,Result.andThen_ok]
   rw [Vv E1.w true d.length cap _ _ l h' h0 h1 (by omega) hl hh]
   simp only [Result.andThen_ok,run_sizeOf hie]
   rfl
  ·simp only [den]
   rw [hsz,←hts]
   exact hrp
 split at hk
 ·rename_i hdd
  split at hk
  ·rename_i t d
   split at hk
   ·rename_i hts
    obtain ⟨l,hk,hl⟩:=Qa hd hk
    obtain ⟨h',hk,hh⟩:=Qa hd hk
    obtain ⟨h0,h1,h2,hk⟩:=hk
    simp only [den] at hx
    obtain ⟨u,hr,hden⟩:=core hdd E t d hts hx l h' h0 h1 h2 (cvt hl) (cvt hh)
    exact ⟨u,E,H,_,hr,hI,Env.le.refl E,hden,hk,Grow.refl _⟩
   ·exact hk.elim
  ·rename_i id
   obtain ⟨en,he,hk⟩:=ZK H hk
   simp only [den] at hx
   split at hk
   ·rename_i et t d
    split at hk
    ·rename_i hts
     obtain ⟨l,hk,hl⟩:=Qa hd hk
     obtain ⟨h',hk,hh⟩:=Qa hd hk
     obtain ⟨h0,h1,h2,hk⟩:=hk
     rw [ZT] at hk
     obtain ⟨S',hle,hI',hr,_⟩:=hI.freeze he hx.1
     obtain ⟨u,hrun,hden⟩:=core hdd ⟨S',E.w,E.ids⟩ t d hts hr l h' h0 h1 h2 (cvt hl) (cvt hh)
     exact ⟨u,_,_,_,hrun,hI',hle,hden,hk,Grow.refl _⟩
    ·exact hk.elim
   ·rename_i t d
    split at hk
    ·rename_i hts
     obtain ⟨l,hk,hl⟩:=Qa hd hk
     obtain ⟨h',hk,hh⟩:=Qa hd hk
     obtain ⟨h0,h1,h2,hk⟩:=hk
     obtain ⟨v',e1,hr⟩:=hI.ent id _ he
     have:=hx.1.symm.trans e1;simp at this;subst this
     obtain ⟨u,hrun,hden⟩:=core hdd E t d hts hr l h' h0 h1 h2 (cvt hl) (cvt hh)
     exact ⟨u,E,H,_,hrun,hI,Env.le.refl E,hden,hk,Grow.refl _⟩
    ·exact hk.elim
   ·exact hk.elim
  ·obtain ⟨l,hk,hl⟩:=Qa hd hk
   obtain ⟨h',hk,hh⟩:=Qa hd hk
   obtain ⟨rfl,rfl,hk⟩:=hk
   simp only [den] at hx;subst hx
   obtain ⟨hu,_,ie,hie,hsz,_⟩:=h.slice hdd
   refine ⟨.slice none 0 0,E,H,.nsl,?_,hI,Env.le.refl E,by simp only [den],hk,Grow.refl _⟩
   simp only [Instr.sliceAt,Instr.slice,Sem.run_bind,run_underlying hu,Result.andThen_ok]
   rw [Vv E.w true 0 0 _ _ 0 0 (by omega) (by omega) (by omega) (cvt hl) (cvt hh)]
   simp [run_sizeOf hie]
  ·exact hk.elim
 ·rename_i hdd
  split at hk
  ·rename_i s
   obtain ⟨l,hk,hl⟩:=Qa hd hk
   obtain ⟨h',hk,hh⟩:=Qa hd hk
   obtain ⟨h0,h1,h2,hk⟩:=hk
   simp only [den] at hx;subst hx
   have hu:=h.string hdd
   have hsz:(⟨s.toArray⟩:ByteArray).size=s.length:=by simp [ByteArray.size]
   refine ⟨_,E,H,_,?_,hI,Env.le.refl E,Zb3 E _,hk,Grow.refl _⟩
   simp only [Instr.sliceAt,Instr.slice,Sem.run_bind,run_underlying hu,Result.andThen_ok,Option.isSome_none,Bool.false_eq_true,if_false,hsz]
   rw [Vv E.w false s.length s.length _ _ l h' h0 h1 h2 (cvt hl) (cvt hh)]
   simp only [Result.andThen_ok,Sem.run_pure]
   congr 2
   apply ByteArray.ext
   simp [ByteArray.data_extract,List.extract_toArray,List.extract_eq_take_drop]
  ·exact hk.elim
 ·exact hk.elim
end
end Go.Sx
