/-
  The operations, one by one.
-/
import Derived.Test.YtgjjlgodlhhdoaaGreatDoorSxOps
namespace Go.Sx
set_option linter.unusedVariables false
set_option linter.unusedSimpArgs false
def SV.one:SV->Bool
 | .bot=>false
 | .agg _=>false
 | .tup _=>false
 | _=>true
theorem Zgs {E:Env} {s:SV} {v:Value} (h:den E s v) (h1:s.one=true):v.cells=#[v]/\v.oneCell'=true:=by
 cases s<;>simp[SV.one] at h1<;>simp only[den] at h
 case int=>subst h;exact ⟨rfl,rfl⟩
 case bool=>subst h;exact ⟨rfl,rfl⟩
 case blit=>subst h;exact ⟨rfl,rfl⟩
 case str=>subst h;exact ⟨rfl,rfl⟩
 case sl=>obtain ⟨a,c,e,_⟩:=h;simp at e;subst e;exact ⟨rfl,rfl⟩
 case nsl=>subst h;exact ⟨rfl,rfl⟩
 case ptr=>obtain ⟨b,_,e⟩:=h;subst e;exact ⟨rfl,rfl⟩
 case own=>obtain ⟨_,a,n,c,e⟩:=h;subst e;exact ⟨rfl,rfl⟩
 case oep=>obtain ⟨b,bo,n,c,_,e⟩:=h;subst e;exact ⟨rfl,rfl⟩
 case fptr=>obtain ⟨p,vs,e,_⟩:=h;subst e;exact ⟨rfl,rfl⟩
 case fn=>obtain ⟨vs,e,_⟩:=h;subst e;exact ⟨rfl,rfl⟩
 case nilp=>subst h;exact ⟨rfl,rfl⟩
 case nptr=>rcases h with ⟨_,e⟩ | ⟨_,_,_,_,e,_⟩<;>simp at e<;>subst e<;>exact ⟨rfl,rfl⟩
 case mown=>obtain ⟨_,b,e⟩:=h;subst e;exact ⟨rfl,rfl⟩
 case mp=>rcases h with ⟨_,e⟩ | ⟨_,_,_,e,_⟩<;>simp at e<;>subst e<;>exact ⟨rfl,rfl⟩
def SV.cells:SV->List SV
 | .agg cs=>cs
 | s=>[s]
def SV.whole:SV->Bool
 | .agg _=>true
 | s=>s.one
def ZlG:List SV->Bool
 | []=>true
 | s::r=>s.one&&ZlG r
theorem Vt {E:Env} {s:SV} {v:Value} (h:den E s v) (hw:s.whole=true):ZT E s.cells v.cells.toList:=by
 by_cases h1:s.one=true
 ·have:=(Zgs h h1).1
  rw[this];cases s<;>simp[SV.one] at h1<;>exact ⟨h,trivial⟩
 ·cases s<;>simp[SV.one] at h1<;>simp[SV.whole,SV.one] at hw
  case agg cs =>
   simp only[den] at h;obtain ⟨vs,rfl,h2⟩:=h;simpa[SV.cells,Value.cells] using h2
theorem Zez {E:Env}:∀ (cs:List SV) (vs:List Value),ZT E cs vs->ZlG cs=true->∀ v∈vs,v.oneCell'=true
 | [],[],_,_,v,hv=>by simp at hv
 | c::cs,v0::vs,h,h1,v,hv=>by
  simp only[ZT] at h;simp only[ZlG,Bool.and_eq_true] at h1;rcases List.mem_cons.1 hv with rfl | hv
  ·exact (Zgs h.1 h1.1).2
  ·exact Zez cs vs h.2 h1.2 v hv
 | [],_::_,h,_,_,_=>by simp[ZT] at h
 | _::_,[],h,_,_,_=>by simp[ZT] at h
def ZwH {k' v' k v:Ty} (hk:k'=k) (hv:v'=v) (d:List (k'.den×v'.den)) (K:List (k.den×v.den)->Prop):Prop :=
 Eq.rec (motive:=λk _=>(List (k.den×v.den)->Prop)->Prop) (λK=>Eq.rec (motive:=λv _=>(List (k'.den×v.den)->Prop)->Prop) (λK=>K d) hv K) hk K
def Xi:(t:Ty)->List SV->(t.den->List SV->Prop)->Prop
 | .int k,cs,K=>match cs with
  | .int k' n::r=>if k'=k then K n r else False
  | _=>False
 | .bool,cs,K=>match cs with
  | .bool b::r=>K b r
  | .blit b::r=>K b r
  | _=>False
 | .str,cs,K=>match cs with
  | .str s::r=>K s r
  | _=>False
 | .sl t,cs,K=>match cs with
  | .sl t' d::r=>if h:t'=t then Zqq h d λd'=>K d' r else False
  | .nsl::r=>K [] r
  | _=>False
 | .unit,cs,K=>K () cs
 | .ptr t,cs,K=>match cs with
  | .fptr cs'::r=>Xi t cs' λx _=>K x r
  | .nptr t' d::r=>if h:t'=t then Zvu h d λd'=>∃ x,d'=some x/\K x r else False
  | _=>False
 | .nptr t,cs,K=>match cs with
  | .nptr t' d::r=>if h:t'=t then Zvu h d λd'=>K d' r else False
  | .nilp::r=>K none r
  | .fptr cs'::r=>Xi t cs' λx _=>K (some x) r
  | _=>False
 | .mp k v,cs,K=>match cs with
  | .mp k' v' d::r=>if h:k'=k then (if h':v'=v then ZwH h h' d λd'=>K d' r else False) else False
  | _=>False
 | .fn f t,cs,K=>match cs with
  | .fn f' cs'::r=>if f'=f then Xi t cs' λx r'=>match r' with
    | []=>K x r
    | _=>False
   else False
  | _=>False
 | .pair a b,cs,K=>Xi a cs λx r=>Xi b r λy r'=>K (x,y) r'
theorem Y4 {E:Env}:∀ (t:Ty) (cs:List SV) (K:t.den->List SV->Prop) (vs:List Value),ZT E cs vs->Xi t cs K->
  ∃ d r v1 v2,vs=v1++v2/\rep E.S E.w t d v1/\ZT E r v2/\K d r
 | .int k,cs,K,vs,hd,h=>by
  simp only[Xi] at h;split at h
  ·rename_i k' n r
   split at h
   ·rename_i e;subst e
    match vs,hd with
    | v::vs,hd=>simp only[ZT,den] at hd;exact ⟨n,r,[v],vs,rfl,by rw[hd.1];rfl,hd.2,h⟩
    | [],hd=>simp[ZT] at hd
   ·exact h.elim
  ·exact h.elim
 | .bool,cs,K,vs,hd,h=>by
  simp only[Xi] at h;split at h
  ·rename_i b r
   match vs,hd with
   | v::vs,hd=>simp only[ZT,den] at hd;exact ⟨b,r,[v],vs,rfl,by rw[hd.1];rfl,hd.2,h⟩
   | [],hd=>simp[ZT] at hd
  ·rename_i b r
   match vs,hd with
   | v::vs,hd=>simp only[ZT,den] at hd;exact ⟨b,r,[v],vs,rfl,by rw[hd.1];rfl,hd.2,h⟩
   | [],hd=>simp[ZT] at hd
  ·exact h.elim
 | .str,cs,K,vs,hd,h=>by
  simp only[Xi] at h;split at h
  ·rename_i b r
   match vs,hd with
   | v::vs,hd=>simp only[ZT,den] at hd;exact ⟨b,r,[v],vs,rfl,by rw[hd.1];rfl,hd.2,h⟩
   | [],hd=>simp[ZT] at hd
  ·exact h.elim
 | .sl t,cs,K,vs,hd,h=>by
  simp only[Xi] at h;split at h
  ·rename_i t' d r
   split at h
   ·rename_i e;subst e
    match vs,hd with
    | v::vs,hd=>simp only[ZT,den] at hd;exact ⟨d,r,[v],vs,rfl,hd.1,hd.2,h⟩
    | [],hd=>simp[ZT] at hd
   ·exact h.elim
  ·rename_i r
   match vs,hd with
   | v::vs,hd=>simp only[ZT,den] at hd;exact ⟨[],r,[v],vs,rfl,by rw[hd.1];exact ⟨none,0,rfl,Nat.le_refl _,λ_=>rfl,.inl rfl⟩,hd.2,h⟩
   | [],hd=>simp[ZT] at hd
  ·exact h.elim
 | .unit,cs,K,vs,hd,h=>⟨(),cs,[],vs,rfl,rfl,hd,h⟩
 | .ptr t,cs,K,vs,hd,h=>by
  simp only[Xi] at h;split at h
  ·rename_i cs' r
   match vs,hd with
   | v::vs,hd =>
    simp only[ZT,den] at hd;obtain ⟨⟨p,xs,e,hp,hS,hx,hd1⟩,hd2⟩:=hd;obtain ⟨d,r',v1,v2,e1,h1,h2,h3⟩:=Y4 t cs' _ xs hd1 h;exact ⟨d,r,[v],vs,rfl,⟨p,v1,by rw[e],hp,hS,λj u hu=>hx j u (by
     rw[e1,List.getElem?_append_left (List.getElem?_eq_some_iff.1 hu).1];exact hu),h1⟩,hd2,h3⟩
   | [],hd=>simp[ZT] at hd
  ·rename_i t' d r
   split at h
   ·rename_i e;subst e
    rw[Zpi] at h;obtain ⟨x,hx,h⟩:=h
    match vs,hd with
    | v::vs,hd =>
     simp only[ZT,den] at hd;have hx:d=some x:=hx;rcases hd.1 with ⟨e0,_⟩ | ⟨x',p,xs,e0,e,hp,hS,hc,hr⟩
     ·rw[hx] at e0;cases e0
     ·rw[hx] at e0;injection e0 with e0;subst e0
      exact ⟨x,r,[v],vs,rfl,⟨p,xs,e,hp,hS,hc,hr⟩,hd.2,h⟩
    | [],hd=>simp[ZT] at hd
   ·exact h.elim
  ·exact h.elim
 | .nptr t,cs,K,vs,hd,h=>by
  simp only[Xi] at h;split at h
  ·rename_i t' d r
   split at h
   ·rename_i e;subst e
    rw[Zpi] at h
    match vs,hd with
    | v::vs,hd=>simp only[ZT,den] at hd;exact ⟨d,r,[v],vs,rfl,hd.1,hd.2,h⟩
    | [],hd=>simp[ZT] at hd
   ·exact h.elim
  ·rename_i r
   match vs,hd with
   | v::vs,hd=>simp only[ZT,den] at hd;exact ⟨none,r,[v],vs,rfl,.inl ⟨rfl,by rw[hd.1]⟩,hd.2,h⟩
   | [],hd=>simp[ZT] at hd
  ·rename_i cs' r
   match vs,hd with
   | v::vs,hd =>
    simp only[ZT,den] at hd;obtain ⟨⟨p,xs,e,hp,hS,hx,hd1⟩,hd2⟩:=hd;obtain ⟨d,r',v1,v2,e1,h1,h2,h3⟩:=Y4 t cs' _ xs hd1 h;exact ⟨some d,r,[v],vs,rfl,.inr ⟨d,p,v1,rfl,by rw[e],hp,hS,λj u hu=>hx j u (by
     rw[e1,List.getElem?_append_left (List.getElem?_eq_some_iff.1 hu).1];exact hu),h1⟩,hd2,h3⟩
   | [],hd=>simp[ZT] at hd
  ·exact h.elim
 | .mp k u,cs,K,vs,hd,h=>by
  simp only[Xi] at h;split at h
  ·rename_i k' u' d r
   split at h
   ·rename_i e;subst e
    split at h
    ·rename_i e;subst e
     have h:K d r:=h
     match vs,hd with
     | v::vs,hd=>simp only[ZT,den] at hd;exact ⟨d,r,[v],vs,rfl,hd.1,hd.2,h⟩
     | [],hd=>simp[ZT] at hd
    ·exact h.elim
   ·exact h.elim
  ·exact h.elim
 | .fn f t,cs,K,vs,hd,h=>by
  simp only[Xi] at h;split at h
  ·rename_i f' cs' r
   split at h
   ·rename_i e;subst e
    match vs,hd with
    | v::vs,hd =>
     simp only[ZT,den] at hd;obtain ⟨⟨xs,e,hd1⟩,hd2⟩:=hd;obtain ⟨d,r',v1,v2,e1,h1,h2,h3⟩:=Y4 t cs' _ xs hd1 h;split at h3
     ·have hv2:v2=[]:=by cases v2 with
       | nil=>rfl
       | cons=>simp[ZT] at h2
      subst hv2;rw[List.append_nil] at e1;subst e1;exact ⟨d,r,[v],vs,rfl,⟨xs,by rw[e],h1⟩,hd2,h3⟩
     ·exact h3.elim
    | [],hd=>simp[ZT] at hd
   ·exact h.elim
  ·exact h.elim
 | .pair a b,cs,K,vs,hd,h=>by
  obtain ⟨x,r,v1,v2,e1,h1,h2,h3⟩:=Y4 a cs _ vs hd h;obtain ⟨y,r',v3,v4,e2,h4,h5,h6⟩:=Y4 b r _ v2 h2 h3;exact ⟨(x,y),r',v1++v3,v4,by rw[e1,e2,List.append_assoc],⟨v1,v3,rfl,h1,h4⟩,h5,h6⟩
def ZzN (op:BinOp) (k:IntKind) (a b:Int) (K:SV->Prop):Prop :=
 match op with
 | .add=>K (.int k (k.wrap (a+b)))
 | .sub=>K (.int k (k.wrap (a-b)))
 | .mul=>K (.int k (k.wrap (a*b)))
 | .quo=>b≠0/\K (.int k (k.wrap (a.tdiv b)))
 | .rem=>b≠0/\K (.int k (a.tmod b))
 | .eql=>K (.bool (decide (a=b)))
 | .neq=>K (.bool (!decide (a=b)))
 | .lss=>K (.bool (decide (a<b)))
 | .leq=>K (.bool (decide (a<=b)))
 | .gtr=>K (.bool (decide (b<a)))
 | .geq=>K (.bool (decide (b<=a)))
 | .and=>K (.int k (bits .and k a b))
 | .or=>K (.int k (bits .or k a b))
 | .xor=>K (.int k (bits .xor k a b))
 | .andNot=>K (.int k (bits .andNot k a b))
 | _=>False
def Zya (op:BinOp) (x y:SV) (K:SV->Prop):Prop :=
 match x,y with
 | .int k a,.int k' b=>match op with
  | .shl=>0<=b/\K (.int k (k.wrap (a*2 ^ (min b.toNat k.bits))))
  | .shr=>0<=b/\K (.int k (a.fdiv (2 ^ (min b.toNat k.bits))))
  | op=>if k=k' then ZzN op k a b K else False
 | .str a,.str b=>match op with
  | .add=>(a.length:Int)+b.length<=9223372036854775807/\K (.str (a++b))
  | .eql=>K (.bool (decide (a=b)))
  | .neq=>K (.bool (!decide (a=b)))
  | _=>False
 | _,_=>False
section
variable {P:Program}
theorem JY {α:Type} [BEq α] [LawfulBEq α] [DecidableEq α] (a b:α):(a == b)=decide (a=b):=by
 by_cases h:a=b<;>simp[h]
theorem ZgX {α:Type} [BEq α] [LawfulBEq α] [DecidableEq α] (a b:α):(a != b) = !decide (a=b):=by
 by_cases h:a=b<;>simp[h]
theorem ZeC (a:List UInt8):(⟨a.toArray⟩:ByteArray).toList=a:=by
 exact ByteArray.toList_mk a
theorem bytes_append (a b:List UInt8):(⟨a.toArray⟩:ByteArray)++⟨b.toArray⟩=⟨(a++b).toArray⟩:=by
 apply ByteArray.ext;simp
theorem Jv (E:Env) (k:IntKind) (n:Int):den E (.int k n) (.int k n):=by simp only[den]
theorem Vu (E:Env) (b:Bool):den E (.bool b) (.bool b):=by simp only[den]
theorem Zpm (E:Env) (b:Bool):den E (.blit b) (.bool b):=by simp only[den]
theorem Zij (E:Env) (s:List UInt8):den E (.str s) (.string ⟨s.toArray⟩):=by simp only[den]
theorem ZvJ {E:Env} {op:BinOp} {k:IntKind} {a b:Int} {K:SV->Prop} (h:ZzN op k a b K) (t:TypeId) :
  ∃ r s,(∀ w,(binOp op t (.int k a) (.int k b)).run P w=.ok r w)/\den E s r/\K s:=by
 cases op
 case add=>exact ⟨_,_,λw=>by simp only[binOp_add];exact rfl,Jv ..,h⟩
 case sub=>exact ⟨_,_,λw=>by simp only[binOp_sub];exact rfl,Jv ..,h⟩
 case mul=>exact ⟨_,_,λw=>by simp only[binOp_mul];exact rfl,Jv ..,h⟩
 case quo=>exact ⟨_,_,λw=>by rw[binOp_quo,Op.intDiv,if_neg h.1];exact rfl,Jv ..,h.2⟩
 case rem=>exact ⟨_,_,λw=>by rw[binOp_rem,Op.intDiv,if_neg h.1];exact rfl,Jv ..,h.2⟩
 case eql=>exact ⟨_,_,λw=>by rw[binOp_eql];exact rfl,Vu ..,h⟩
 case neq=>exact ⟨_,_,λw=>by rw[binOp_neq];exact rfl,Vu ..,h⟩
 case lss=>exact ⟨_,_,λw=>by rw[binOp_lss];exact rfl,Vu ..,h⟩
 case leq=>exact ⟨_,_,λw=>by rw[binOp_leq];exact rfl,Vu ..,h⟩
 case gtr=>exact ⟨_,_,λw=>by rw[binOp_gtr];exact rfl,Vu ..,h⟩
 case geq=>exact ⟨_,_,λw=>by rw[binOp_geq];exact rfl,Vu ..,h⟩
 case and=>exact ⟨_,_,λw=>by rw[binOp_and,intBits_and];exact rfl,Jv ..,h⟩
 case or=>exact ⟨_,_,λw=>by rw[binOp_or,intBits_or];exact rfl,Jv ..,h⟩
 case xor=>exact ⟨_,_,λw=>by rw[binOp_xor,intBits_xor];exact rfl,Jv ..,h⟩
 case andNot=>exact ⟨_,_,λw=>by rw[binOp_andNot,intBits_andNot];exact rfl,Jv ..,h⟩
 all_goals exact h.elim
theorem Zvp {E:Env} {op:BinOp} {x y:SV} {K:SV->Prop} (h:Zya op x y K) {u v:Value} (hu:den E x u) (hv:den E y v) (t:TypeId) (ox oy:Operand) :
  ∃ r s,(∀ w,((do eqGuard op t ox oy u v;binOp op t u v:Sem Value)).run P w=.ok r w)/\den E s r/\K s:=by
 unfold Zya at h;split at h
 ·rename_i k a k' b
  simp only[den] at hu hv;subst hu;subst hv;have hg:eqGuard op t ox oy (.int k a) (.int k' b)=pure ():=eqGuard_at_int ..;rw[hg,pure_bind];split at h
  ·have:¬b<0:=by omega
   exact ⟨_,_,λw=>by rw[binOp_shl,Op.shift,if_neg this];exact rfl,Jv ..,h.2⟩
  ·have:¬b<0:=by omega
   exact ⟨_,_,λw=>by rw[binOp_shr,Op.shift,if_neg this];exact rfl,Jv ..,h.2⟩
  ·split at h
   ·rename_i e;subst e
    exact ZvJ h t
   ·exact h.elim
 ·rename_i a b
  simp only[den] at hu hv;subst hu;subst hv;have hg:eqGuard op t ox oy (.string ⟨a.toArray⟩) (.string ⟨b.toArray⟩)=pure ():=eqGuard_at_string ..;rw[hg,pure_bind];split at h
  ·have hl:¬((((⟨a.toArray⟩:ByteArray).size+(⟨b.toArray⟩:ByteArray).size:Nat):Int) > IntKind.i64.max):=by
    have h1:(⟨a.toArray⟩:ByteArray).size=a.length:=by simp[ByteArray.size]
    have h2:(⟨b.toArray⟩:ByteArray).size=b.length:=by simp[ByteArray.size]
    rw[h1,h2,IntKind.max_i64];have:=h.1;omega
   exact ⟨_,_,λw=>by simp only[binOp,Op.stringOp,if_neg hl,bytes_append];exact rfl,Zij ..,h.2⟩
  ·exact ⟨_,_,λw=>by simp only[binOp,Op.stringOp,ZeC,JY,ZgX];exact rfl,Vu ..,h⟩
  ·exact ⟨_,_,λw=>by simp only[binOp,Op.stringOp,ZeC,JY,ZgX];exact rfl,Vu ..,h⟩
  ·exact h.elim
 ·exact h.elim
def unK (op:UnOp) (x:SV) (K:SV->Prop):Prop :=
 match op,x with
 | .neg,.int k n=>K (.int k (k.wrap (0-n)))
 | .not,.bool b=>K (.bool (!b))
 | .not,.blit true=>K (.blit false)
 | .not,.blit false=>K (.blit true)
 | _,_=>False
theorem Zxs {E:Env} {op:UnOp} {x:SV} {K:SV->Prop} (h:unK op x K) {u:Value} (hu:den E x u) :
  ∃ r s,(∀ w,(Op.unary op u).run P w=.ok r w)/\den E s r/\K s:=by
 unfold unK at h;split at h
 ·simp only[den] at hu;subst hu;exact ⟨_,_,λ_=>rfl,Jv ..,h⟩
 ·simp only[den] at hu;subst hu;exact ⟨_,_,λ_=>rfl,Vu ..,h⟩
 ·simp only[den] at hu;subst hu;exact ⟨_,_,λ_=>rfl,Zpm ..,h⟩
 ·simp only[den] at hu;subst hu;exact ⟨_,_,λ_=>rfl,Zpm ..,h⟩
 ·exact h.elim
end
end Go.Sx
