/-
  Values of a struct, and truth values, compared.
-/
import Derived.Test.YtgjjlgodlhhdoaaGreatDoorSxOps4
import Derived.Laws.StructEq
namespace Go.Sx
set_option linter.unusedVariables false
set_option linter.unusedSimpArgs false
def ZvL (a b:SV) (K:Bool->Prop):Prop :=
 match a,b with
 | .int k x,.int k' y=>if k=k' then K (decide (x=y)) else False
 | _,_=>False
def ZvM (a b:SV) (K:Bool->Prop):Prop :=
 match a,b with
 | .str x,.str y=>K (decide (x=y))
 | _,_=>False
def ZtO (a b:SV) (K:Bool->Prop):Prop :=
 match a,b with
 | .bool x,.bool y=>K (x == y)
 | .bool x,.blit true=>K x
 | .blit true,.bool x=>K x
 | .bool x,.blit false=>K (!x)
 | .blit false,.bool x=>K (!x)
 | .blit x,.blit y=>K (x == y)
 | _,_=>False
def eqF:EqD->List SV->List SV->(Bool->Prop)->Prop
 | .nil,_,_,K=>K true
 | .int _ o r,xs,ys,K=>ZjA xs o λa=>ZjA ys o λb=>ZvL a b λp=>match r with
  | .nil=>K p
  | r=>eqF r xs ys λq=>K (p&&q)
 | .bool o r,xs,ys,K=>ZjA xs o λa=>ZjA ys o λb=>ZtO a b λp=>match r with
  | .nil=>K p
  | r=>eqF r xs ys λq=>K (p&&q)
 | .str o r,xs,ys,K=>ZjA xs o λa=>ZjA ys o λb=>ZvM a b λp=>match r with
  | .nil=>K p
  | r=>eqF r xs ys λq=>K (p&&q)
 | .st o sz fs r,xs,ys,K=>Zgj xs o λx1=>Zlz x1 sz λx2=>Zgj ys o λy1=>Zlz y1 sz λy2=>eqF fs x2 y2 λp=>match r with
  | .nil=>K p
  | r=>eqF r xs ys λq=>K (p&&q)
def EqD.depth:EqD->Nat
 | .nil=>0
 | .int _ _ r=>max 1 r.depth
 | .bool _ r=>max 1 r.depth
 | .str _ r=>max 1 r.depth
 | .st _ _ fs r=>max (fs.depth+1) r.depth
def eqK (op:BinOp) (ti:TI) (x y:SV) (K:SV->Prop):Prop :=
 match x,y with
 | .agg xs,.agg ys=>if ti.eqd.isNil=true then False else if ti.eqd.depth<=1000 then eqF ti.eqd xs ys λp=>match op with
  | .eql=>K (.bool p)
  | .neq=>K (.bool (!p))
  | _=>False else False
 | x,y=>match ti.kind with
  | .bool=>ZtO x y λp=>match op with
   | .eql=>K (.bool p)
   | .neq=>K (.bool (!p))
   | _=>False
  | _=>False
section
variable {P:Program}
theorem Zcs {t:TypeId} {d:TypeDesc} (hd:P.underlying t=some d) (ha:ZeW d=false) {cs:Array Value} {o:Nat} {v:Value} (hv:cs[o]?=some v) (w:World):(part t cs o).run P w=.ok v w:=by
 have hagg:(isAgg t).run P w=.ok false w:=by
  unfold isAgg;rw[Sem.run_bind,run_underlying hd];simp only[Result.andThen_ok,<-ha];cases d<;>rfl
 rw[part,Sem.run_bind,hagg,Result.andThen_ok];simp[hv]
theorem Zp8 {t:TypeId} {d:TypeDesc} (hd:P.underlying t=some d) (ha:ZeW d=true) {sz:Nat} (hs:(P.info? t).map (·.size)=some sz) {us:List Value} {o:Nat} (w:World) :
  (part t us.toArray o).run P w=.ok (.agg ((us.drop o).take sz).toArray) w:=by
 have hagg:(isAgg t).run P w=.ok true w:=by
  unfold isAgg;rw[Sem.run_bind,run_underlying hd];simp only[Result.andThen_ok,<-ha];cases d<;>rfl
 obtain ⟨i,hi,hsz⟩:=Option.map_eq_some_iff.1 hs;rw[part,Sem.run_bind,hagg,Result.andThen_ok,if_pos rfl,Sem.run_bind,run_sizeOf hi,Result.andThen_ok,hsz];simp[List.extract_eq_take_drop]
theorem Zgn {k:IntKind} {t:TypeId} (h:ZpG k (P.underlying t)=true):P.underlying t=some (.int k):=by
 unfold ZpG at h;split at h
 ·rename_i k' hu;rw[hu];simp at h;rw[h]
 ·cases h
theorem Zix {t:TypeId} (h:ZmC (P.underlying t)=true):P.underlying t=some .bool:=by
 unfold ZmC at h;split at h
 ·rename_i hu;exact hu
 ·cases h
theorem ZkA {t:TypeId} (h:ZpH (P.underlying t)=true):P.underlying t=some .string:=by
 unfold ZpH at h;split at h
 ·rename_i hu;exact hu
 ·cases h
theorem ZtP {E:Env} {a b:SV} {u v:Value} (hu:den E a u) (hv:den E b v) {K:Bool->Prop} (hk:ZvL a b K) {t:TypeId} {k:IntKind} (ht:P.underlying t=some (.int k)) :
  ∃ p,K p/\∀ m w,(Op.equalIn (m+1) t u v).run P w=.ok p w:=by
 unfold ZvL at hk;split at hk
 ·rename_i k1 x k2 y
  simp only[den] at hu hv;subst hu;subst hv;split at hk
  ·rename_i e;subst e
   exact ⟨_,hk,λm w=>by rw[run_equalIn_int w m t k1 k x y ht,JY]⟩
  ·exact hk.elim
 ·exact hk.elim
theorem ZtQ {E:Env} {a b:SV} {u v:Value} (hu:den E a u) (hv:den E b v) {K:Bool->Prop} (hk:ZvM a b K) {t:TypeId} (ht:P.underlying t=some .string) :
  ∃ p,K p/\∀ m w,(Op.equalIn (m+1) t u v).run P w=.ok p w:=by
 unfold ZvM at hk;split at hk
 ·simp only[den] at hu hv;subst hu;subst hv
  exact ⟨_,hk,λm w=>by rw[run_equalIn_string w m t _ _ ht,ZeC,ZeC,JY]⟩
 ·exact hk.elim
theorem ZpI {E:Env} {a b:SV} {u v:Value} (hu:den E a u) (hv:den E b v) {K:Bool->Prop} (hk:ZtO a b K) :
  ∃ x y,u=.bool x/\v=.bool y/\K (x == y):=by
 unfold ZtO at hk;split at hk<;>(try simp only[den] at hu hv)
 ·exact ⟨_,_,hu,hv,hk⟩
 ·exact ⟨_,_,hu,hv,by simpa using hk⟩
 ·exact ⟨_,_,hu,hv,by simpa using hk⟩
 ·exact ⟨_,_,hu,hv,by simpa using hk⟩
 ·exact ⟨_,_,hu,hv,by simpa using hk⟩
 ·exact ⟨_,_,hu,hv,hk⟩
 ·exact hk.elim
theorem Zcd {n:Nat} {xs ys:Array Value} {f:Field} {fl:List Field} (hn:f.name≠ "_") {a b:Value} {p q:Bool} {w:World} (ha:(part f.type xs f.offset).run P w=.ok a w)
  (hb:(part f.type ys f.offset).run P w=.ok b w) (he:(Op.equalIn n f.type a b).run P w=.ok p w) (hr:(Op.eqFields n xs ys fl).run P w=.ok q w) :
  (Op.eqFields n xs ys (f::fl)).run P w=.ok (p&&q) w:=by
 rw[Op.eqFields,if_pos hn,Sem.run_bind,ha,Result.andThen_ok,Sem.run_bind,hb,Result.andThen_ok,Sem.run_bind,he,Result.andThen_ok];cases p
 ·simp
 ·simp[hr]
theorem Zpu {r:EqD} {fl:List Field} (hf:r.fits P fl=true) {xs ys:List SV} {us vs:List Value} {K:Bool->Prop} {p:Bool} (hk:match (generalizing:=false) r with
  | .nil=>K p
  | r=>eqF r xs ys λq=>K (p&&q))
  (ih:∀ {K:Bool->Prop},eqF r xs ys K->∃ p,K p/\∀ n,r.depth<=n->∀ w,(Op.eqFields n us.toArray vs.toArray fl).run P w=.ok p w)
  {D:Nat} (hD:r.depth<=D) {f:Field} (hs:∀ q n,D<=n->∀ w,(Op.eqFields n us.toArray vs.toArray fl).run P w=.ok q w->(Op.eqFields n us.toArray vs.toArray (f::fl)).run P w=.ok (p&&q) w) :
  ∃ p,K p/\∀ n,D<=n->∀ w,(Op.eqFields n us.toArray vs.toArray (f::fl)).run P w=.ok p w:=by
 have gen:(eqF r xs ys λq=>K (p&&q))->∃ p,K p/\∀ n,D<=n->∀ w,(Op.eqFields n us.toArray vs.toArray (f::fl)).run P w=.ok p w:=by
  intro hk;obtain ⟨q,hk,hq⟩:=ih hk;exact ⟨_,hk,λn hn w=>hs q n hn w (hq n (by omega) w)⟩
 cases r with
 | nil =>
  simp only[EqD.fits,List.isEmpty_iff] at hf;subst hf;exact ⟨p,hk,λn hn w=>by have:=hs true n hn w rfl;simpa using this⟩
 | _=>exact gen hk
theorem ZlN {E:Env}:∀ (d:EqD) (fl:List Field),d.fits P fl=true->∀ (xs ys:List SV) (us vs:List Value),ZT E xs us->ZT E ys vs->∀ {K:Bool->Prop},eqF d xs ys K->
  ∃ p,K p/\∀ n,d.depth<=n->∀ w,(Op.eqFields n us.toArray vs.toArray fl).run P w=.ok p w
 | .nil,fl,hf,xs,ys,us,vs,hx,hy,K,hk=>by
  simp only[EqD.fits,List.isEmpty_iff] at hf;subst hf;exact ⟨true,hk,λn _ w=>rfl⟩
 | .int k o r,fl,hf,xs,ys,us,vs,hx,hy,K,hk=>by
  cases fl with
  | nil=>simp[EqD.fits] at hf
  | cons f fl =>
   simp only[EqD.fits,Bool.and_eq_true,bne_iff_ne,beq_iff_eq] at hf;obtain ⟨⟨⟨h1,h2⟩,h3⟩,h4⟩:=hf;simp only[eqF] at hk;obtain ⟨a,u,hu,hau,hk,_⟩:=Zao _ _ hx hk;obtain ⟨b,v,hv,hbv,hk,_⟩:=Zao _ _ hy hk;have hty:=Zgn h3;obtain ⟨p,hk,hp⟩:=ZtP hau hbv hk hty;refine Zpu h4 hk (λhk=>ZlN r fl h4 xs ys us vs hx hy hk) (by simp only[EqD.depth];omega) (λq n hn w hq=>?_);simp only[EqD.depth] at hn;obtain ⟨m,rfl⟩:∃ m,n=m+1:=⟨n-1,by omega⟩;exact Zcd h1 (Zcs hty rfl (by rw[h2];simpa using hu) w) (Zcs hty rfl (by rw[h2];simpa using hv) w) (hp m w) hq
 | .bool o r,fl,hf,xs,ys,us,vs,hx,hy,K,hk=>by
  cases fl with
  | nil=>simp[EqD.fits] at hf
  | cons f fl =>
   simp only[EqD.fits,Bool.and_eq_true,bne_iff_ne,beq_iff_eq] at hf;obtain ⟨⟨⟨h1,h2⟩,h3⟩,h4⟩:=hf;simp only[eqF] at hk;obtain ⟨a,u,hu,hau,hk,_⟩:=Zao _ _ hx hk;obtain ⟨b,v,hv,hbv,hk,_⟩:=Zao _ _ hy hk;have hty:=Zix h3;obtain ⟨x,y,rfl,rfl,hk⟩:=ZpI hau hbv hk;refine Zpu h4 hk (λhk=>ZlN r fl h4 xs ys us vs hx hy hk) (by simp only[EqD.depth];omega) (λq n hn w hq=>?_);simp only[EqD.depth] at hn;obtain ⟨m,rfl⟩:∃ m,n=m+1:=⟨n-1,by omega⟩;exact Zcd h1 (Zcs hty rfl (by rw[h2];simpa using hu) w) (Zcs hty rfl (by rw[h2];simpa using hv) w) (run_equalIn_bool' w m f.type x y hty) hq
 | .str o r,fl,hf,xs,ys,us,vs,hx,hy,K,hk=>by
  cases fl with
  | nil=>simp[EqD.fits] at hf
  | cons f fl =>
   simp only[EqD.fits,Bool.and_eq_true,bne_iff_ne,beq_iff_eq] at hf;obtain ⟨⟨⟨h1,h2⟩,h3⟩,h4⟩:=hf;simp only[eqF] at hk;obtain ⟨a,u,hu,hau,hk,_⟩:=Zao _ _ hx hk;obtain ⟨b,v,hv,hbv,hk,_⟩:=Zao _ _ hy hk;have hty:=ZkA h3;obtain ⟨p,hk,hp⟩:=ZtQ hau hbv hk hty;refine Zpu h4 hk (λhk=>ZlN r fl h4 xs ys us vs hx hy hk) (by simp only[EqD.depth];omega) (λq n hn w hq=>?_);simp only[EqD.depth] at hn;obtain ⟨m,rfl⟩:∃ m,n=m+1:=⟨n-1,by omega⟩;exact Zcd h1 (Zcs hty rfl (by rw[h2];simpa using hu) w) (Zcs hty rfl (by rw[h2];simpa using hv) w) (hp m w) hq
 | .st o sz fs r,fl,hf,xs,ys,us,vs,hx,hy,K,hk=>by
  cases fl with
  | nil=>simp[EqD.fits] at hf
  | cons f fl =>
   simp only[EqD.fits,Bool.and_eq_true,bne_iff_ne,beq_iff_eq] at hf;obtain ⟨⟨⟨⟨h1,h2⟩,h3⟩,h5⟩,h4⟩:=hf;split at h3
   ·rename_i gs hu
    simp only[Bool.and_eq_true,Bool.not_eq_true'] at h3;obtain ⟨h3,h6⟩:=h3;simp only[eqF,ZaN,ZfT] at hk;have hx2:=Zej _ _ (Vv _ _ hx o) sz;have hy2:=Zej _ _ (Vv _ _ hy o) sz;obtain ⟨p,hk,hp⟩:=ZlN fs gs.toList h6 _ _ _ _ hx2 hy2 hk;refine Zpu h4 hk (λhk=>ZlN r fl h4 xs ys us vs hx hy hk) (by simp only[EqD.depth];omega) (λq n hn w hq=>?_);simp only[EqD.depth] at hn;obtain ⟨m,rfl⟩:∃ m,n=m+1:=⟨n-1,by omega⟩;have hfo:P.fieldsOf f.type=gs:=by simp[Program.fieldsOf,hu]
    refine Zcd h1 (by rw[h2];exact Zp8 hu rfl h5 w) (by rw[h2];exact Zp8 hu rfl h5 w) ?_ hq;rw[run_equalIn_struct w m f.type _ _ (by rw[hfo];exact hu) h3,hfo];exact hp m (by omega) w
   ·cases h3
theorem ZrQ {E:Env} {T:TypeId} {ti:TI} (h:ZbB P T ti) {op:BinOp} {x y:SV} {K:SV->Prop} (hk:eqK op ti x y K) {u v:Value} (hu:den E x u) (hv:den E y v) (ox oy:Operand) :
  ∃ r s,(∀ w,((do eqGuard op T ox oy u v;binOp op T u v:Sem Value)).run P w=.ok r w)/\den E s r/\K s:=by
 unfold eqK at hk;split at hk
 ·rename_i xs ys
  simp only[den] at hu hv;obtain ⟨us,rfl,hu⟩:=hu;obtain ⟨vs,rfl,hv⟩:=hv;split at hk
  ·exact hk.elim
  ·rename_i hnil
   split at hk
   ·rename_i hdep
    have he:=h.eqd;simp only[hnil,Bool.false_or] at he;split at he
    ·rename_i fs hT
     simp only[Bool.and_eq_true,Bool.not_eq_true'] at he;obtain ⟨⟨e1,e2⟩,e3⟩:=he;obtain ⟨p,hk,hp⟩:=ZlN ti.eqd fs.toList e2 xs ys us vs hu hv hk;have hfo:P.fieldsOf T=fs:=by simp[Program.fieldsOf,hT]
     have hrun:∀ w,(Op.equalIn 10000 T (.agg us.toArray) (.agg vs.toArray)).run P w=.ok p w:=by
      intro w;rw[show (10000:Nat)=9999+1 from rfl,run_equalIn_struct w 9999 T _ _ (by rw[hfo];exact hT) e1,hfo];exact hp 9999 (by omega) w
     cases op<;>first | exact hk.elim | skip
     ·exact ⟨_,_,λw=>by rw[Sem.run_bind,run_eqGuard_agg w .eql T ox oy _ _ e3,Result.andThen_ok,run_eql_struct w T,hrun w,Result.andThen_ok],Vu ..,hk⟩
     ·exact ⟨_,_,λw=>by rw[Sem.run_bind,run_eqGuard_agg w .neq T ox oy _ _ e3,Result.andThen_ok,run_neq_struct w T,hrun w,Result.andThen_ok],Vu ..,hk⟩
    ·cases he
   ·exact hk.elim
 ·split at hk
  ·rename_i hb
   obtain ⟨a,b,rfl,rfl,hk⟩:=ZpI hu hv hk;have hT:P.underlying T=some .bool:=by
    obtain ⟨d,hd,hk2⟩:=h.get;rw[hb] at hk2;cases d<;>simp[Zq4] at hk2
    exact hd
   have hrun:∀ w,(Op.equal T (.bool a) (.bool b)).run P w=.ok (a == b) w:=λw=>run_equalIn_bool' w 9999 T a b hT;cases op<;>first | exact hk.elim | skip
   ·exact ⟨_,_,λw=>by simp only[eqGuard,binOp,Sem.run_bind,hrun];rfl,Vu ..,hk⟩
   ·exact ⟨_,_,λw=>by simp only[eqGuard,binOp,Sem.run_bind,hrun];rfl,Vu ..,hk⟩
  ·exact hk.elim
def ZhY (op:BinOp) (b nb:SV) (K:SV->Prop):Prop :=
 match op with
 | .eql=>K b
 | .neq=>K nb
 | _=>False
def Zg2:TK->Bool
 | .ptr=>true
 | _=>false
def Znx:TK->Bool
 | .sl=>true
 | _=>false
def ZxN (op:BinOp) (ti:TI) (x:SV) (K:SV->Prop):Prop :=
 match x with
 | .nptr _ d=>if Zg2 ti.kind=true then ZhY op (.bool d.isNone) (.bool (!d.isNone)) K else False
 | .ptr _ _=>if Zg2 ti.kind=true then ZhY op (.blit false) (.blit true) K else False
 | .fptr _=>if Zg2 ti.kind=true then ZhY op (.blit false) (.blit true) K else False
 | .nilp=>if Zg2 ti.kind=true then ZhY op (.blit true) (.blit false) K else False
 | .nsl=>if Znx ti.kind=true then ZhY op (.blit true) (.blit false) K else False
 | .sl _ d=>if Znx ti.kind=true then (d=[]->ZhY op (.blit true) (.blit false) K)/\ZhY op (.blit false) (.blit true) K else False
 | _=>False
theorem Zb5 {T:TypeId} {u v:Value} {b:Bool} (hn:∀ w,(Op.equal T u v).run P w=.ok b w) (hu:(∃ p,u=.pointer p)\/∃ a n c,u=.slice a n c) (ox oy:Operand) {op:BinOp} {sb nb:SV} {K:SV->Prop} {E:Env}
  (hb:den E sb (.bool b)) (hnb:den E nb (.bool (!b))) (hk:ZhY op sb nb K) :
  ∃ r s,(∀ w,((do eqGuard op T ox oy u v;binOp op T u v:Sem Value)).run P w=.ok r w)/\den E s r/\K s:=by
 unfold ZhY at hk;rcases hu with ⟨p,rfl⟩ | ⟨a,n,c,rfl⟩
 ·split at hk
  ·exact ⟨_,_,λw=>by simp only[eqGuard,binOp,Sem.run_bind,hn];rfl,hb,hk⟩
  ·exact ⟨_,_,λw=>by simp only[eqGuard,binOp,Sem.run_bind,hn];rfl,hnb,hk⟩
  ·exact hk.elim
 ·split at hk
  ·exact ⟨_,_,λw=>by simp only[eqGuard,binOp,Sem.run_bind,hn];rfl,hb,hk⟩
  ·exact ⟨_,_,λw=>by simp only[eqGuard,binOp,Sem.run_bind,hn];rfl,hnb,hk⟩
  ·exact hk.elim
theorem Zcu {T e:TypeId} (h:P.underlying T=some (.pointer e)) (p:Option Addr) (w:World):(Op.equal T (.pointer p) (.pointer none)).run P w=.ok p.isNone w:=by
 show (Op.equalIn (9999+1) T (.pointer p) (.pointer none)).run P w=_;unfold Op.equalIn;rw[Sem.run_bind,run_underlying h,Result.andThen_ok];cases p<;>rfl
theorem Zgv {T e:TypeId} (h:P.underlying T=some (.slice e)) (a:Option Addr) (n c:Nat) (w:World):(Op.equal T (.slice a n c) (.slice none 0 0)).run P w=.ok a.isNone w:=by
 show (Op.equalIn (9999+1) T (.slice a n c) (.slice none 0 0)).run P w=_;unfold Op.equalIn;rw[Sem.run_bind,run_underlying h,Result.andThen_ok];cases a<;>rfl
theorem Zsi {E:Env} {T:TypeId} {ti:TI} (h:ZbB P T ti) {op:BinOp} {x y:SV} (hy:y=.nilp\/y=.nsl) {K:SV->Prop} (hk:ZxN op ti x K) (hxy:(Zg2 ti.kind=true->y=.nilp)/\(Znx ti.kind=true->y=.nsl)) {u v:Value} (hu:den E x u) (hv:den E y v) (ox oy:Operand) :
  ∃ r s,(∀ w,((do eqGuard op T ox oy u v;binOp op T u v:Sem Value)).run P w=.ok r w)/\den E s r/\K s:=by
 have hp:Zg2 ti.kind=true->(∃ e,P.underlying T=some (.pointer e))/\v=.pointer none:=by
  intro hq;obtain ⟨d,hd,hk2⟩:=h.get;refine ⟨?_,?_⟩
  ·cases d<;>simp[Zq4] at hk2<;>rw[<-hk2] at hq<;>simp[Zg2] at hq
   exact ⟨_,hd⟩
  ·have:=hxy.1 hq
   subst this;simpa only[den] using hv
 have hs:Znx ti.kind=true->(∃ e,P.underlying T=some (.slice e))/\v=.slice none 0 0:=by
  intro hq;obtain ⟨d,hd,hk2⟩:=h.get;refine ⟨?_,?_⟩
  ·cases d<;>simp[Zq4] at hk2<;>rw[<-hk2] at hq<;>simp[Znx] at hq
   exact ⟨_,hd⟩
  ·have:=hxy.2 hq
   subst this;simpa only[den] using hv
 unfold ZxN at hk;split at hk
 ·rename_i t d
  split at hk
  ·rename_i hq
   obtain ⟨⟨e,hT⟩,rfl⟩:=hp hq;simp only[den] at hu;rcases hu with ⟨rfl,e2⟩ | ⟨x,p,xs,rfl,e2,_⟩
   ·simp at e2;subst e2
    exact Zb5 (Zcu hT none) (.inl ⟨_,rfl⟩) ox oy (Vu ..) (Vu ..) hk
   ·simp at e2;subst e2
    exact Zb5 (Zcu hT (some p)) (.inl ⟨_,rfl⟩) ox oy (Vu ..) (Vu ..) hk
  ·exact hk.elim
 ·split at hk
  ·rename_i hq
   obtain ⟨⟨e,hT⟩,rfl⟩:=hp hq;simp only[den] at hu;obtain ⟨b,_,rfl⟩:=hu;exact Zb5 (Zcu hT (some _)) (.inl ⟨_,rfl⟩) ox oy (by simp only[den];rfl) (by simp only[den];rfl) hk
  ·exact hk.elim
 ·split at hk
  ·rename_i hq
   obtain ⟨⟨e,hT⟩,rfl⟩:=hp hq;simp only[den] at hu;obtain ⟨p,xs,rfl,_⟩:=hu;exact Zb5 (Zcu hT (some _)) (.inl ⟨_,rfl⟩) ox oy (by simp only[den];rfl) (by simp only[den];rfl) hk
  ·exact hk.elim
 ·split at hk
  ·rename_i hq
   obtain ⟨⟨e,hT⟩,rfl⟩:=hp hq;simp only[den] at hu;subst hu;exact Zb5 (Zcu hT none) (.inl ⟨_,rfl⟩) ox oy (by simp only[den];rfl) (by simp only[den];rfl) hk
  ·exact hk.elim
 ·split at hk
  ·rename_i hq
   obtain ⟨⟨e,hT⟩,rfl⟩:=hs hq;simp only[den] at hu;subst hu;exact Zb5 (Zgv hT none 0 0) (.inr ⟨_,_,_,rfl⟩) ox oy (by simp only[den];rfl) (by simp only[den];rfl) hk
  ·exact hk.elim
 ·rename_i t d
  split at hk
  ·rename_i hq
   obtain ⟨⟨e,hT⟩,rfl⟩:=hs hq;simp only[den] at hu;obtain ⟨a,cap,e1,_,hn,h3⟩:=hu;simp at e1;subst e1;cases a with
   | none =>
    have hd:d=[]:=by
     rcases h3 with h3 | ⟨p,xs,e,_⟩
     ·exact h3
     ·cases e
    exact Zb5 (Zgv hT none _ _) (.inr ⟨_,_,_,rfl⟩) ox oy (by simp only[den];rfl) (by simp only[den];rfl) (hk.1 hd)
   | some a=>exact Zb5 (Zgv hT (some a) _ _) (.inr ⟨_,_,_,rfl⟩) ox oy (by simp only[den];rfl) (by simp only[den];rfl) hk.2
  ·exact hk.elim
 ·exact hk.elim
end
end Go.Sx
