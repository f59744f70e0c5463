/-
  Lengths, parts of lists and strings, conversions, min and max.
-/
import Derived.Test.YtgjjlgodlhhdoaaGreatDoorSxOps7
namespace Go.Sx
set_option linter.unusedVariables false
set_option linter.unusedSimpArgs false
section
variable {P:Program}
def Zzm (ti:TI) (x:SV) (H:List Entry) (K:SV->Prop):Prop :=
 match ti.kind with
 | .sl=>match x with
  | .sl _ d=>K (.int .i64 (d.length:Int))
  | .nsl=>K (.int .i64 0)
  | .own id=>ZeE H id λe=>match e with
   | .arr _ _ d=>K (.int .i64 (d.length:Int))
   | .frz _ d=>K (.int .i64 (d.length:Int))
   | .darr _ _ d _=>K (.int .i64 (d.length:Int))
   | .hole _ _ d _ _ _=>K (.int .i64 (d.length:Int))
   | .spl _ _ d _ _=>K (.int .i64 (d.length:Int))
   | .hsp _ _ d _ _ _=>K (.int .i64 (d.length:Int))
   | _=>False
  | _=>False
 | .str=>match x with
  | .str s=>K (.int .i64 (s.length:Int))
  | _=>False
 | .arr n=>K (.int .i64 (n:Int))
 | _=>False
theorem ZbB.string {T:TypeId} {ti:TI} (h:ZbB P T ti) (hk:ti.kind=.str):P.underlying T=some .string:=by
 obtain ⟨d,hd,hk'⟩:=h.get;rw[hk] at hk';cases d<;>simp[Zq4] at hk'
 exact hd
theorem ZbB.intOf {T:TypeId} {ti:TI} (h:ZbB P T ti) {k:IntKind} (hk:ti.kind=.int k):P.underlying T=some (.int k):=by
 obtain ⟨d,hd,hk'⟩:=h.get;rw[hk] at hk';cases d<;>simp[Zq4] at hk'
 subst hk';exact hd
theorem ZvN {B:Base} {E:Env} {H:List Entry} (hI:Inv B E H) {T ty:TypeId} {ti:TI} (h:ZbB P T ti) {x:SV} {v:Value} (hx:den E x v) {K:SV->Prop} (hk:Zzm ti x H K) :
  ∃ u s,Zlb P (Builtin.len_ #[T] ty #[v]) u/\den E s u/\K s:=by
 unfold Zzm at hk;have sl:∀ (a:Option Addr) (n c:Nat),ti.kind=.sl->v=.slice a n c->K (.int .i64 (n:Int))->∃ u s,Zlb P (Builtin.len_ #[T] ty #[v]) u/\den E s u/\K s:=by
  intro a n c hd hv hk;subst hv;have hu:=(h.slice hd).1;exact ⟨_,_,λw=>by simp[Builtin.len_,run_underlying hu];rfl,Jv E .i64 n,hk⟩
 split at hk
 ·rename_i hd
  split at hk
  ·rename_i t d
   simp only[den] at hx;obtain ⟨a,cap,e1,_⟩:=hx;simp at e1;exact sl a _ cap hd e1 hk
  ·simp only[den] at hx
   exact sl none 0 0 hd hx hk
  ·rename_i id
   obtain ⟨en,he,hk⟩:=Yy H hk;simp only[den] at hx;split at hk
   ·rename_i et t d
    obtain ⟨v',xs,e1,h2,h3⟩:=hI.ent id _ he;have:=hx.1.symm.trans e1;simp at this;subst this;rcases h2.2 with ⟨rfl,hn⟩ | ⟨g,cap,cur,o,rfl,_⟩
    ·rw[hn] at hk;exact sl _ _ _ hd rfl hk
    ·exact sl _ _ _ hd rfl hk
   ·rename_i t d
    obtain ⟨v',e1,h2⟩:=hI.ent id _ he;have:=hx.1.symm.trans e1;simp at this;subst this;obtain ⟨a,cap,e1,_⟩:=h2;simp at e1;exact sl a _ cap hd e1 hk
   ·rename_i et e d fp
    obtain ⟨v',xs,fps,e1,h2,h3⟩:=hI.ent id _ he;have:=hx.1.symm.trans e1;simp at this;subst this;rcases h2.2 with ⟨rfl,hn⟩ | ⟨g,cap,cur,o,rfl,_⟩
    ·rw[hn] at hk;exact sl _ _ _ hd rfl hk
    ·exact sl _ _ _ hd rfl hk
   ·rename_i et e d j cs fp
    obtain ⟨v',xs,x1,vx,x2,f1,f2,e1,h2,h3⟩:=hI.ent id _ he;have:=hx.1.symm.trans e1;simp at this;subst this;rcases h2.2 with ⟨rfl,hn⟩ | ⟨g,cap,cur,o,rfl,_⟩
    ·rw[hn] at hk;exact sl _ _ _ hd rfl hk
    ·exact sl _ _ _ hd rfl hk
   ·rename_i et e d n fp
    obtain ⟨v',e1,⟨xs,x1,x2,f1,h2,h3⟩,_⟩:=hI.ent id _ he;have:=hx.1.symm.trans e1;simp at this;subst this;rcases h2.2 with ⟨rfl,hn⟩ | ⟨g,cap,cur,o,rfl,_⟩
    ·rw[hn] at hk;exact sl _ _ _ hd rfl hk
    ·exact sl _ _ _ hd rfl hk
   ·rename_i et e d j cs fp
    obtain ⟨v',xs,x1,vx,x2,f1,e1,h2,h3⟩:=hI.ent id _ he;have:=hx.1.symm.trans e1;simp at this;subst this;rcases h2.2 with ⟨rfl,hn⟩ | ⟨g,cap,cur,o,rfl,_⟩
    ·rw[hn] at hk;exact sl _ _ _ hd rfl hk
    ·exact sl _ _ _ hd rfl hk
   ·exact hk.elim
  ·exact hk.elim
 ·rename_i hd
  split at hk
  ·rename_i s
   simp only[den] at hx;subst hx;refine ⟨_,_,?_,Jv E .i64 s.length,hk⟩;have hu:=h.string hd;have hsz:(⟨s.toArray⟩:ByteArray).size=s.length:=by simp[ByteArray.size]
   intro w;simp only[Builtin.len_,List.getElem?_toArray,List.getElem?_cons_zero,Sem.run_bind,run_underlying hu,Result.andThen_ok,hsz];rfl
  ·exact hk.elim
 ·rename_i n hd
  refine ⟨_,_,?_,Jv E .i64 n,hk⟩;have hu:=(h.array hd).1;intro w;cases v<;>simp[Builtin.len_,run_underlying hu,goInt]
 ·exact hk.elim
theorem ZtZ (x y:Int):(if y<x then y else x)=min x y:=by omega
theorem ZtY (x y:Int):(if y > x then y else x)=max x y:=by omega
def ZwS (mx:Bool):SV->List SV->(SV->Prop)->Prop
 | s,[],K=>K s
 | .int k x,.int _ y::r,K=>ZwS mx (.int k (if mx then max x y else min x y)) r K
 | _,_::_,_=>False
theorem ZoM {E:Env} {mx:Bool}:∀ (cs:List SV) (s:SV) (v:Value) (vs:List Value),den E s v->ZT E cs vs->∀ {K:SV->Prop},ZwS mx s cs K->
  ∃ u r,(∀ w,(vs.foldlM (if mx then Builtin.max2 else Builtin.min2) v).run P w=.ok u w)/\den E r u/\K r
 | [],s,v,vs,hs,hd,K,hk=>by
  match vs,hd with
  | [],_=>exact ⟨v,s,λ_=>rfl,hs,by cases s<;>exact hk⟩
  | _::_,hd=>simp[ZT] at hd
 | c::cs,s,v,vs,hs,hd,K,hk=>by
  match vs,hd with
  | [],hd=>simp[ZT] at hd
  | u::vs,hd =>
   simp only[ZT] at hd;unfold ZwS at hk;split at hk
   ·simp at *
   ·rename_i k x k' y r e1
    simp at e1;obtain ⟨rfl,rfl⟩:=e1;have hu:=hd.1;simp only[den] at hs hu;subst hs;subst hu;obtain ⟨u',r',h1,h2,h3⟩:=ZoM cs _ (.int k (if mx then max x y else min x y)) vs (Jv E k _) hd.2 hk;refine ⟨u',r',?_,h2,h3⟩;intro w;have h1:=h1 w;rw[List.foldlM_cons,Sem.run_bind];cases mx
    ·simp only[Bool.false_eq_true,if_false,Builtin.min2,ZtZ,Sem.run_pure,Result.andThen_ok] at h1 ⊢;exact h1
    ·simp only[if_true,Builtin.max2,ZtY,Sem.run_pure,Result.andThen_ok] at h1 ⊢;exact h1
   ·exact hk.elim
def ZzG (s:SV) (i:Nat) (K:SV->Prop):Prop :=
 match s with
 | .tup cs=>ZjA cs i K
 | _=>False
theorem Zwg {E:Env} {s:SV} {v:Value} (hs:den E s v) {i:Nat} {K:SV->Prop} (hk:ZzG s i K):∃ u r,(∀ w,(Instr.extract v i).run P w=.ok u w)/\den E r u/\K r:=by
 unfold ZzG at hk;split at hk
 ·simp only[den] at hs
  obtain ⟨vs,rfl,hd⟩:=hs;obtain ⟨r,u,h1,h2,h3,_⟩:=Zao _ _ hd hk;exact ⟨u,r,λw=>by simp[Instr.extract,h1],h2,h3⟩
 ·exact hk.elim
def bytesOf (d:List Int):List UInt8:=d.map λn=>UInt8.ofNat n.toNat
def Zvx (ts td:TI) (x:SV) (H:List Entry) (K:SV->Prop):Prop :=
 match td.kind,x with
 | .int k,.int _ n=>K (.int k (k.wrap n))
 | .str,.str s=>K (.str s)
 | _,_=>False
theorem Ztw {E:Env} {H:List Entry} {S T:TypeId} {ts td:TI} (hs:ZbB P S ts) (ht:ZbB P T td) {x:SV} {v:Value} (hx:den E x v) {K:SV->Prop} (hk:Zvx ts td x H K) :
  ∃ u s,(∀ w,(convert S T v).run P w=.ok u w)/\den E s u/\K s:=by
 unfold Zvx at hk;obtain ⟨ds,h1,_⟩:=hs.get;split at hk
 ·rename_i k k' n hd
  simp only[den] at hx;subst hx;refine ⟨_,_,?_,Jv E k _,hk⟩;have h2:=ht.intOf hd;intro w;unfold convert;rw[Sem.run_bind,run_underlying h1,Result.andThen_ok,Sem.run_bind,run_underlying h2,Result.andThen_ok];cases ds<;>rfl
 ·rename_i s hd
  simp only[den] at hx;subst hx;refine ⟨_,_,?_,Zij E s,hk⟩;have h2:=ht.string hd;intro w;unfold convert;rw[Sem.run_bind,run_underlying h1,Result.andThen_ok,Sem.run_bind,run_underlying h2,Result.andThen_ok];cases ds<;>rfl
 ·exact hk.elim
def ZrB (te:TI) (x:SV) (H:List Entry) (K:SV->Prop):Prop :=
 match te.kind with
 | .int .u8=>Zxe x H (λt d=>if h:t=.int .u8 then Zqq h d λd'=>K (.str (bytesOf d')) else False) (K (.str []))
 | _=>False
theorem Zi4 {S:Nat->Prop} {w:World}:∀ (d:List Int) (xs:List Value),XZ (rep S w (.int .u8)) d xs->xs=d.map (Value.int .u8)
 | [],xs,h=>by cases h;rfl
 | n::d,_,⟨v1,v2,e,h1,h2⟩=>by
  have:=Zi4 d v2 h2;subst e;subst this;have h1':v1=[.int .u8 n]:=h1;subst h1';rfl
theorem Zkn:∀ (d:List Int) (s:List UInt8),d.foldl (λ(r:ByteArray) n=>r.push (UInt8.ofNat n.toNat)) (⟨s.toArray⟩:ByteArray)=⟨(s++bytesOf d).toArray⟩
 | [],s=>by simp[bytesOf]
 | n::d,s=>by
  have h:=Zkn d (s++[UInt8.ofNat n.toNat]);have e:(⟨s.toArray⟩:ByteArray).push (UInt8.ofNat n.toNat)=⟨(s++[UInt8.ofNat n.toNat]).toArray⟩:=by
   simp[ByteArray.push]
  rw[List.foldl_cons,e,h];simp[bytesOf]
theorem ZrC {B:Base} {E:Env} {H:List Entry} (hI:Inv B E H) {S T:TypeId} {ts td te:TI} (hs:ZbB P S ts) (hks:ts.kind=.sl) (ht:ZbB P T td) (hkt:td.kind=.str) (hte:ZbB P ts.elem te) {x:SV} {v:Value} (hx:den E x v)
  {K:SV->Prop} (hk:ZrB te x H K):∃ u s,(convert S T v).run P E.w=.ok u E.w/\den E s u/\K s:=by
 unfold ZrB at hk;split at hk
 ·rename_i hke
  obtain ⟨hu,_⟩:=hs.slice hks;have he:=hte.intOf hke;have hstr:=ht.string hkt;have nil:v=.slice none 0 0->(convert S T v).run P E.w=.ok (.string ⟨([]:List UInt8).toArray⟩) E.w:=by
   rintro rfl;rw[run_convert_bytes_string _ _ _ _ _ _ _ hu he hstr];rfl
  rcases Zo1 hI hx hk with ⟨t,d,hl,hk⟩ | ⟨hv,hk⟩
  ·split at hk
   ·rename_i hte';subst hte'
    rw[Zph] at hk;rcases hl with ⟨hv,hd⟩ | ⟨ad,c,xs,hv,hlen,hc,hr⟩
    ·subst hd
     exact ⟨_,_,nil hv,Zij E _,hk⟩
    ·have hxs:=Zi4 _ _ hr
     subst hv;refine ⟨_,_,?_,Zij E _,hk⟩;rw[run_convert_bytes_string _ _ _ _ _ _ _ hu he hstr];have hload:=run_loadCells_list (P:=P) E.w ad xs hc;have hl1:xs.length=d.length:=by simpa[Ty.size] using hlen
     rw[hl1,hxs] at hload;rw[run_bytesToString _ _ _ _ _ hload];have hf:=Zkn d [];rw[List.nil_append] at hf;rw[<-hf];rfl
   ·exact hk.elim
  ·exact ⟨_,_,nil hv,Zij E _,hk⟩
 ·exact hk.elim
def int64?:SV->Option Int
 | .int .i64 n=>some n
 | _=>none
def Znv:List SV->Option (List Int)
 | []=>some []
 | c::r=>match int64? c,Znv r with
  | some n,some l=>some (n::l)
  | _,_=>none
theorem ZtL {c:SV} {n:Int} (h:int64? c=some n):c=.int .i64 n:=by
 unfold int64? at h;split at h
 ·injection h with h;subst h;rfl
 ·cases h
theorem Znw {E:Env}:∀ (cs:List SV) {l:List Int},Znv cs=some l->∀ vs,ZT E cs vs->vs=l.map (λn=>Value.int .i64 n)
 | [],l,h,vs,hd=>by
  simp only[Znv,Option.some.injEq] at h;subst h;cases vs with
  | nil=>rfl
  | cons v vs=>simp[ZT] at hd
 | c::cs,l,h,vs,hd=>by
  cases vs with
  | nil=>simp[ZT] at hd
  | cons v vs =>
   simp only[ZT] at hd;obtain ⟨h1,h2⟩:=hd;unfold Znv at h;split at h
   ·rename_i n l' e1 e2
    injection h with h
    subst h;have:=ZtL e1;subst this;simp only[den] at h1;subst h1;rw[Znw cs e2 vs h2];rfl
   ·cases h
def ZsX (ti:TI) (s si:SV) (K:SV->Prop):Prop :=
 match ti.kind,s,si with
 | .str,.str l,.int _ i=>ZgM l i λc=>K (.int .u8 (c.toNat:Int))
 | .arr n,.agg cs,.int _ i=>match Znv cs with
  | some l=>if (!ti.eagg&&ti.esize == 1&&l.length == n)=true then ZgM l i λc=>K (.int .i64 c) else False
  | none=>False
 | _,_,_=>False
theorem ZsY {E:Env} {T:TypeId} {ti:TI} (h:ZbB P T ti) {s si:SV} {v vi:Value} (hs:den E s v) (hsi:den E si vi) {K:SV->Prop} (hk:ZsX ti s si K) :
  ∃ u r,(∀ w,(Instr.index T v vi).run P w=.ok u w)/\den E r u/\K r:=by
 unfold ZsX at hk;split at hk
 ·rename_i l k i hd
  simp only[den] at hs hsi;subst hs;subst hsi;obtain ⟨h0,h1,h2⟩:=hk;obtain ⟨c,hc⟩:∃ c,l[i.toNat]?=some c:=⟨_,List.getElem?_eq_getElem (by omega)⟩;refine ⟨_,_,?_,Jv E .u8 _,h2 c hc⟩;have hu:=h.string hd;have hlt:i.toNat<(⟨l.toArray⟩:ByteArray).size:=by simp[ByteArray.size];omega
  have hb:(⟨l.toArray⟩:ByteArray)[i.toNat]?=some c:=by
   have hx:(⟨l.toArray⟩:ByteArray)[i.toNat]'hlt=c:=by
    have:=(List.getElem?_eq_some_iff.1 hc).2;rw[<-this];rfl
   rw[<-hx];exact getElem?_pos (⟨l.toArray⟩:ByteArray) i.toNat hlt
  intro w;simp[Instr.index,asIntOf,run_underlying hu,h0,hb]
 ·rename_i n cs k i hd
  simp only[den] at hs hsi;obtain ⟨vs,rfl,hds⟩:=hs;subst hsi;split at hk
  ·rename_i l hl
   split at hk
   ·rename_i hq
    simp only[Bool.and_eq_true,Bool.not_eq_true',beq_iff_eq] at hq;obtain ⟨⟨hea,hes⟩,hln⟩:=hq;have hv:=Znw cs hl vs hds;obtain ⟨h0,h1,h2⟩:=hk;obtain ⟨c,hc⟩:∃ c,l[i.toNat]?=some c:=⟨_,List.getElem?_eq_getElem (by omega)⟩;refine ⟨_,_,?_,Jv E .i64 c,h2 c hc⟩;obtain ⟨hu,hag,inf,hi,hsz,_,_⟩:=h.array hd;have hagg:∀ w,(isAgg ti.elem).run P w=.ok false w:=by
     intro w;cases hud:P.underlying ti.elem with
     | none=>simp[hud] at hag
     | some d =>
      rw[hud] at hag;have hag:ZeW d=ti.eagg:=by simpa using hag
      rw[hea] at hag;unfold isAgg;rw[Sem.run_bind,run_underlying hud];simp only[Result.andThen_ok,<-hag];cases d<;>rfl
    have hcell:vs[i.toNat*inf.size]?=some (.int .i64 c):=by
     rw[hsz,hes,Nat.mul_one,hv];simp[hc]
    have h1':i<(n:Int):=by omega
    intro w;simp[Instr.index,asIntOf,run_underlying hu,h0,h1',part,hagg,run_sizeOf hi,hcell]
   ·exact hk.elim
  ·exact hk.elim
 ·exact hk.elim
def ZeB (regs:List SV) (o:Option Operand) (dflt:Int) (K:Int->Prop):Prop :=
 match o with
 | none=>K dflt
 | some x=>Vh regs x λs=>match s with
  | .int _ n=>K n
  | _=>False
def Zn1 (ti:TI) (regs:List SV) (x:SV) (lo hi:Option Operand) (H:List Entry) (K:SV->List Entry->Prop):Prop :=
 match ti.kind with
 | .sl=>match x with
  | .sl t d=>if t.size=ti.esize then ZeB regs lo 0 λl=>ZeB regs hi d.length λh=>0<=l/\l<=h/\h<=(d.length:Int)/\K (.sl t ((d.drop l.toNat).take (h.toNat-l.toNat))) H else False
  | .own id=>ZeE H id λe=>match e with
   | .arr _ t d=>if t.size=ti.esize then ZeB regs lo 0 λl=>ZeB regs hi d.length λh=>0<=l/\l<=h/\h<=(d.length:Int)/\
     Zfk H id (.frz t d) λH'=>K (.sl t ((d.drop l.toNat).take (h.toNat-l.toNat))) H' else False
   | .frz t d=>if t.size=ti.esize then ZeB regs lo 0 λl=>ZeB regs hi d.length λh=>0<=l/\l<=h/\h<=(d.length:Int)/\K (.sl t ((d.drop l.toNat).take (h.toNat-l.toNat))) H else False
   | _=>False
  | .nsl=>ZeB regs lo 0 λl=>ZeB regs hi 0 λh=>l=0/\h=0/\K .nsl H
  | _=>False
 | .str=>match x with
  | .str s=>ZeB regs lo 0 λl=>ZeB regs hi s.length λh=>0<=l/\l<=h/\h<=(s.length:Int)/\K (.str ((s.drop l.toNat).take (h.toNat-l.toNat))) H
  | _=>False
 | _=>False
theorem JO {E:Env} {regs:List SV} {a:Act} (hd:ZT E regs a.tmps.toList) {o:Option Operand} {dflt:Int} {K:Int->Prop} (h:ZeB regs o dflt K) :
  ∃ n,K n/\(o=none/\n=dflt\/∃ k,o.map a.eval=some (.int k n)):=by
 unfold ZeB at h;split at h
 ·exact ⟨dflt,h,.inl ⟨rfl,rfl⟩⟩
 ·rename_i x
  obtain ⟨s,hs,h⟩:=Yb hd h;split at h
  ·rename_i k n
   simp only[den] at hs;exact ⟨n,h,.inr ⟨k,by simp[hs]⟩⟩
  ·exact h.elim
theorem run_sliceBound (w:World) (k:IntKind) (n:Int) (y:Nat) (c:BoundsCode) (h0:0<=n) (h1:n<=(y:Int)):(Instr.sliceBound (.int k n) y c).run P w=.ok n.toNat w:=by
 have:0<=n/\n<=(y:Int):=⟨h0,h1⟩;simp[Instr.sliceBound,asIntOf,this]
theorem Zcv (w:World) (sl:Bool) (len cap:Nat) (lo hi:Option Value) (l h:Int) (h0:0<=l) (h1:l<=h) (h2:h<=(cap:Int))
  (hl:lo=none/\l=0\/∃ k,lo=some (.int k l)) (hh:hi=none/\h=(len:Int)\/∃ k,hi=some (.int k h)) :
  (Instr.sliceBounds sl len cap lo hi none).run P w=.ok (l.toNat,h.toNat,cap) w:=by
 have e1:∀ c,(match hi with | some v=>Instr.sliceBound v cap c | none=>pure len:Sem Nat).run P w=.ok h.toNat w:=by
  intro c;rcases hh with ⟨rfl,rfl⟩ | ⟨k,rfl⟩
  ·simp
  ·exact run_sliceBound w k h cap _ (by omega) h2
 have e2:∀ c,(match lo with | some v=>Instr.sliceBound v h.toNat c | none=>pure 0:Sem Nat).run P w=.ok l.toNat w:=by
  intro c;rcases hl with ⟨rfl,rfl⟩ | ⟨k,rfl⟩
  ·simp
  ·exact run_sliceBound w k l _ _ h0 (by omega)
 rcases hh with ⟨rfl,rfl⟩ | ⟨k,rfl⟩
 ·rcases hl with ⟨rfl,rfl⟩ | ⟨k',rfl⟩
  ·simp[Instr.sliceBounds]
  ·simp[Instr.sliceBounds,run_sliceBound w k' l _ _ h0 h1]
 ·have a1:=run_sliceBound (P:=P) w k h cap (if sl then .sliceAcap else .sliceAlen) (by omega) h2
  rcases hl with ⟨rfl,rfl⟩ | ⟨k',rfl⟩
  ·simp[Instr.sliceBounds,a1]
  ·have a2:=run_sliceBound (P:=P) w k' l h.toNat .sliceB h0 (by omega)
   simp[Instr.sliceBounds,a1,a2]
theorem Zt9 {S:Nat->Prop} {w:World} {t:Ty} {d:List t.den} {a:Option Addr} {n cap:Nat} (h:rep S w (.sl t) d [.slice a n cap]) (l h':Nat) (h1:l<=h') (h2:h'<=d.length) :
  n=d.length/\d.length<=cap/\rep S w (.sl t) ((d.drop l).take (h'-l)) [.slice (if cap=l then a else a.map (·.add (l*t.size))) (h'-l) (cap-l)]:=by
 obtain ⟨a',cap',e1,hle,hn,h3⟩:=h;simp at e1;obtain ⟨rfl,rfl,rfl⟩:=e1;refine ⟨rfl,hle,?_⟩;have hlen:((d.drop l).take (h'-l)).length=h'-l:=by simp;omega
 refine ⟨_,cap-l,by rw[hlen],by rw[hlen];omega,λe=>?_,?_⟩
 ·split at e
  ·have:=hn e;omega
  ·cases a with
   | none=>have:=hn rfl;omega
   | some p=>simp at e
 ·by_cases he:h'=l
  ·exact .inl (List.eq_nil_of_length_eq_zero (by rw[hlen];omega))
  ·rcases h3 with h3 | ⟨p,xs,rfl,hp,hS,hc,hr⟩
   ·subst h3;simp at h2;omega
   ·refine .inr ⟨p.add (l*t.size),(xs.drop (l*t.size)).take ((h'-l)*t.size),?_,Zmf _ _ hp,by rw[add_block];exact hS,λj u hu=>?_,?_⟩
    ·rw[if_neg (by omega)];rfl
    ·rw[add_add _ _ _ hp]
     rw[List.getElem?_take] at hu;split at hu
     ·exact hc _ u (by simpa using hu)
     ·cases hu
    ·have:=Zhl (λd vs=>Xj t d vs) _ _ hr l
     exact Zhm (λd vs=>Xj t d vs) _ _ this (h'-l)
theorem ZkT {B:Base} {E:Env} {H:List Entry} (hI:Inv B E H) {regs:List SV} {a:Act} (hd:ZT E regs a.tmps.toList) {T:TypeId} {ti:TI} (h:ZbB P T ti) {x:SV} {v:Value} (hx:den E x v)
  {lo hi:Option Operand} {K:SV->List Entry->Prop} (hk:Zn1 ti regs x lo hi H K) :
  ∃ u E' H' s,(Instr.sliceAt T v (lo.map a.eval) (hi.map a.eval) none).run P E.w=.ok u E'.w/\Inv B E' H'/\E.le E'/\den E' s u/\K s H'/\Grow E.w E'.w:=by
 unfold Zn1 at hk;have cvt:∀ {o:Option Operand} {n d:Int},(o=none/\n=d\/∃ k,o.map a.eval=some (.int k n))->(o.map a.eval=none/\n=d\/∃ k,o.map a.eval=some (.int k n)):=by
  intro o n d hh;rcases hh with ⟨rfl,e⟩ | hh
  ·exact .inl ⟨rfl,e⟩
  ·exact .inr hh
 have core:ti.kind=.sl->∀ (E1:Env) (t:Ty) (d:List t.den),t.size=ti.esize->rep E1.S E1.w (.sl t) d [v]->∀ l h:Int,0<=l->l<=h->h<=(d.length:Int)->
   (lo.map a.eval=none/\l=0\/∃ k,lo.map a.eval=some (.int k l))->(hi.map a.eval=none/\h=(d.length:Int)\/∃ k,hi.map a.eval=some (.int k h))->
   ∃ u,(Instr.sliceAt T v (lo.map a.eval) (hi.map a.eval) none).run P E1.w=.ok u E1.w/\den E1 (.sl t ((d.drop l.toNat).take (h.toNat-l.toNat))) u:=by
  intro hdd E1 t d hts hr l h' h0 h1 h2 hl hh;obtain ⟨hu,_,ie,hie,hsz,_⟩:=h.slice hdd;obtain ⟨a0,cap,e1,hle,hn,h3⟩:=hr;simp at e1;subst e1;obtain ⟨_,_,hrp⟩:=Zt9 (⟨a0,cap,rfl,hle,hn,h3⟩:rep E1.S E1.w (.sl t) d [.slice a0 d.length cap]) l.toNat h'.toNat (by omega) (by omega);refine ⟨.slice (if cap=l.toNat then a0 else a0.map (·.add (l.toNat*ie.size))) (h'.toNat-l.toNat) (cap-l.toNat),?_,?_⟩
  ·simp only[Instr.sliceAt,Instr.slice,Sem.run_bind,run_underlying hu,Result.andThen_ok]
   rw[Zcv E1.w true d.length cap _ _ l h' h0 h1 (by omega) hl hh];simp only[Result.andThen_ok,run_sizeOf hie];rfl
  ·simp only[den]
   rw[hsz,<-hts];exact hrp
 split at hk
 ·rename_i hdd
  split at hk
  ·rename_i t d
   split at hk
   ·rename_i hts
    obtain ⟨l,hk,hl⟩:=JO hd hk;obtain ⟨h',hk,hh⟩:=JO hd hk;obtain ⟨h0,h1,h2,hk⟩:=hk;simp only[den] at hx;obtain ⟨u,hr,hden⟩:=core hdd E t d hts hx l h' h0 h1 h2 (cvt hl) (cvt hh);exact ⟨u,E,H,_,hr,hI,Env.le.refl E,hden,hk,Grow.refl _⟩
   ·exact hk.elim
  ·rename_i id
   obtain ⟨en,he,hk⟩:=Yy H hk;simp only[den] at hx;split at hk
   ·rename_i et t d
    split at hk
    ·rename_i hts
     obtain ⟨l,hk,hl⟩:=JO hd hk;obtain ⟨h',hk,hh⟩:=JO hd hk;obtain ⟨h0,h1,h2,hk⟩:=hk;rw[YU] at hk;obtain ⟨S',hle,hI',hr,_⟩:=hI.freeze he hx.1;obtain ⟨u,hrun,hden⟩:=core hdd ⟨S',E.w,E.ids⟩ t d hts hr l h' h0 h1 h2 (cvt hl) (cvt hh);exact ⟨u,_,_,_,hrun,hI',hle,hden,hk,Grow.refl _⟩
    ·exact hk.elim
   ·rename_i t d
    split at hk
    ·rename_i hts
     obtain ⟨l,hk,hl⟩:=JO hd hk;obtain ⟨h',hk,hh⟩:=JO hd hk;obtain ⟨h0,h1,h2,hk⟩:=hk;obtain ⟨v',e1,hr⟩:=hI.ent id _ he;have:=hx.1.symm.trans e1;simp at this;subst this;obtain ⟨u,hrun,hden⟩:=core hdd E t d hts hr l h' h0 h1 h2 (cvt hl) (cvt hh);exact ⟨u,E,H,_,hrun,hI,Env.le.refl E,hden,hk,Grow.refl _⟩
    ·exact hk.elim
   ·exact hk.elim
  ·obtain ⟨l,hk,hl⟩:=JO hd hk
   obtain ⟨h',hk,hh⟩:=JO hd hk;obtain ⟨rfl,rfl,hk⟩:=hk;simp only[den] at hx;subst hx;obtain ⟨hu,_,ie,hie,hsz,_⟩:=h.slice hdd;refine ⟨.slice none 0 0,E,H,.nsl,?_,hI,Env.le.refl E,by simp only[den],hk,Grow.refl _⟩;simp only[Instr.sliceAt,Instr.slice,Sem.run_bind,run_underlying hu,Result.andThen_ok];rw[Zcv E.w true 0 0 _ _ 0 0 (by omega) (by omega) (by omega) (cvt hl) (cvt hh)];simp[run_sizeOf hie]
  ·exact hk.elim
 ·rename_i hdd
  split at hk
  ·rename_i s
   obtain ⟨l,hk,hl⟩:=JO hd hk;obtain ⟨h',hk,hh⟩:=JO hd hk;obtain ⟨h0,h1,h2,hk⟩:=hk;simp only[den] at hx;subst hx;have hu:=h.string hdd;have hsz:(⟨s.toArray⟩:ByteArray).size=s.length:=by simp[ByteArray.size]
   refine ⟨_,E,H,_,?_,hI,Env.le.refl E,Zij E _,hk,Grow.refl _⟩;simp only[Instr.sliceAt,Instr.slice,Sem.run_bind,run_underlying hu,Result.andThen_ok,Option.isSome_none,Bool.false_eq_true,if_false,hsz];rw[Zcv E.w false s.length s.length _ _ l h' h0 h1 h2 (cvt hl) (cvt hh)];simp only[Result.andThen_ok,Sem.run_pure];congr 2;apply ByteArray.ext;simp[ByteArray.data_extract,List.extract_toArray,List.extract_eq_take_drop]
  ·exact hk.elim
 ·exact hk.elim
end
end Go.Sx
