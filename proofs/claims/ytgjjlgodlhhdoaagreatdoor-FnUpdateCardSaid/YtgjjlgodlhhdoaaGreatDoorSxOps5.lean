/-
  Stores; new variables; own lists turned into data.
-/
import Derived.Test.YtgjjlgodlhhdoaaGreatDoorSxEq
namespace Go.Sx
set_option linter.unusedVariables false
set_option linter.unusedSimpArgs false
section
variable {P:Program}
def ZlU (cells:List SV) (H:List Entry) (K:SV->List Entry->Prop):Prop :=
 Zoj H 0 λn=>Zmi H [.box cells] λH'=>K (.ptr n 0) H'
theorem ZnF {B:Base} {E:Env} {H:List Entry} (hI:Inv B E H) {cells:List SV} {K:SV->List Entry->Prop} (hk:ZlU cells H K) (cs:Array Value) (T:TypeId) (hd:ZT E cells cs.toList) :
  ∃ E' H' s,E'.w=E.w.alloc (.cells cs T)/\Inv B E' H'/\E.le E'/\den E' s (.pointer (some ⟨E.w.heap.size,0,none⟩))/\K s H':=by
 unfold ZlU at hk;rw[Zax,Ju,Nat.zero_add] at hk;have hle:=Zmh hI (.cells cs T) (.pointer (some ⟨E.w.heap.size,0,none⟩));have hid:(E.ids++[Value.pointer (some ⟨E.w.heap.size,0,none⟩)])[H.length]?=some (.pointer (some ⟨E.w.heap.size,0,none⟩)):=by
  rw[<-hI.len];simp
 refine ⟨⟨E.S,E.w.alloc (.cells cs T),E.ids++[.pointer (some ⟨E.w.heap.size,0,none⟩)]⟩,_,_,rfl,hI.alloc (.cells cs T) _ _ rfl ?_,hle,?_,hk⟩
 ·exact ⟨_,cs,T,hid,Go.heap_alloc_new _ _,ZE hle _ _ hd⟩
 ·simp only[den]
  exact ⟨_,hid,rfl⟩
theorem ZaP (w:World) (o:Obj):Grow w (w.alloc o):=λb hb=>Go.heap_alloc_old w o hb
def ZuQ (ti:TI) (H:List Entry) (K:SV->List Entry->Prop):Prop:=Zk9 ti.zero λcells=>ZlU cells H K
theorem Zrl {B:Base} {E:Env} {H:List Entry} (hI:Inv B E H) {T:TypeId} {ti:TI} (h:ZbB P T ti) {K:SV->List Entry->Prop} (hk:ZuQ ti H K) :
  ∃ u E' H' s,(Instr.alloc T true (.tuple #[])).run P E.w=.ok u E'.w/\Inv B E' H'/\E.le E'/\den E' s u/\K s H'/\Grow E.w E'.w:=by
 obtain ⟨l,hd,hk⟩:=Zd9 E _ _ hk;obtain ⟨i,hi,_,_,hz⟩:=h.info';obtain ⟨E',H',s,hw,h1,h2,h3,h4⟩:=ZnF hI hk ti.zero.cells T hd;refine ⟨_,E',H',s,?_,h1,h2,h3,h4,by rw[hw];exact ZaP _ _⟩;rw[hw];simp[Instr.alloc,zeroValue,typeInfo,hi,hz,newVar,newRow]
def Zyc (s:SV) (H:List Entry) (K:SV->List Entry->Prop):Prop:=if s.whole=true then ZlU s.cells H K else False
theorem Zvq {B:Base} {E:Env} {H:List Entry} (hI:Inv B E H) {T:TypeId} {s:SV} {v:Value} (hs:den E s v) {K:SV->List Entry->Prop} (hk:Zyc s H K) :
  ∃ u E' H' r,(Instr.box T v).run P E.w=.ok u E'.w/\Inv B E' H'/\E.le E'/\den E' r u/\K r H'/\Grow E.w E'.w:=by
 unfold Zyc at hk;split at hk
 ·rename_i hw
  obtain ⟨E',H',r,hw',h1,h2,h3,h4⟩:=ZnF hI hk v.cells T (Vt hs hw);refine ⟨_,E',H',r,?_,h1,h2,h3,h4,by rw[hw'];exact ZaP _ _⟩;rw[hw'];simp[Instr.box,newVar,newRow]
 ·exact hk.elim
def Qu:List SV->List Entry->(List SV->List Entry->Prop)->Prop
 | [],H,K=>K [] H
 | s::r,H,K=>match s with
  | .own id=>ZeE H id λe=>match e with
   | .arr _ t d=>Zfk H id (.frz t d) λH'=>Qu r H' λr' H''=>K (.sl t d::r') H''
   | .darr _ e d _=>Zfk H id (.frz e.ty d) λH'=>Qu r H' λr' H''=>K (.sl e.ty d::r') H''
   | .frz t d=>Qu r H λr' H'=>K (.sl t d::r') H'
   | _=>False
  | .mown id=>ZeE H id λe=>match e with
   | .mpe k v d=>Zfk H id (.frm k v d) λH'=>Qu r H' λr' H''=>K (.mp k v d::r') H''
   | .frm k v d=>Qu r H λr' H'=>K (.mp k v d::r') H'
   | _=>False
  | s=>Qu r H λr' H'=>K (s::r') H'
theorem XI {B:Base}:∀ (cs:List SV) {E:Env} {H:List Entry} (_:Inv B E H) {vs:List Value} (_:ZT E cs vs) {K:List SV->List Entry->Prop} (_:Qu cs H K),
  ∃ E' H' cs',Frz E H E' H'/\Inv B E' H'/\ZT E' cs' vs/\K cs' H'/\∀ (i:Nat) (c:List SV),H[i]?=some (.box c)->H'[i]?=some (.box c)
 | [],E,H,hI,vs,hd,K,hk=>⟨E,H,[],Frz.refl E H,hI,hd,hk,λ_ _ h=>h⟩
 | s::r,E,H,hI,vs,hd,K,hk=>by
  match vs,hd with
  | [],hd=>simp[ZT] at hd
  | v::vs,hd =>
   simp only[ZT] at hd;have other:(Qu r H λr' H'=>K (s::r') H')->∃ E' H' cs',Frz E H E' H'/\Inv B E' H'/\ZT E' cs' (v::vs)/\K cs' H'/\∀ (i:Nat) (c:List SV),H[i]?=some (.box c)->H'[i]?=some (.box c):=by
    intro hk;obtain ⟨E',H',cs',h0,h1,h3,h4,h5⟩:=XI r hI hd.2 hk;exact ⟨E',H',s::cs',h0,h1,⟨ZdX h0.le s v hd.1,h3⟩,h4,h5⟩
   cases s with
   | own k =>
    simp only[Qu] at hk;obtain ⟨e,he,hk⟩:=Yy H hk;have h1:=hd.1;simp only[den] at h1;have hlt:k<H.length:=(List.getElem?_eq_some_iff.1 he).1;split at hk
    ·rename_i et t d
     rw[YU] at hk;obtain ⟨S',hle,hI',hr,hS'⟩:=hI.freeze he h1.1;have hf1:Frz E H ⟨S',E.w,E.ids⟩ (H.set k (.frz t d)):=Frz.one he rfl h1.1 rfl hle hS';obtain ⟨E',H',cs',h0,h1',h3,h4,h5⟩:=XI r hI' (ZE hle _ _ hd.2) hk;refine ⟨E',H',.sl t d::cs',hf1.trans h0,h1',⟨by simp only[den];exact Z7 h0.le.S h0.le.w (.sl t) d [v] hr,h3⟩,h4,λi c hi=>h5 i c ?_⟩;by_cases hki:k=i
     ·subst hki;rw[he] at hi;simp at hi
     ·rw[List.getElem?_set_ne hki];exact hi
    ·rename_i et e d fp
     rw[YU] at hk;obtain ⟨S',hle,hI',hr,hS'⟩:=hI.ZvE he h1.1;have hf1:Frz E H ⟨S',E.w,E.ids⟩ (H.set k (.frz e.ty d)):=Frz.one he rfl h1.1 rfl hle hS';obtain ⟨E',H',cs',h0,h1',h3,h4,h5⟩:=XI r hI' (ZE hle _ _ hd.2) hk;refine ⟨E',H',.sl e.ty d::cs',hf1.trans h0,h1',⟨by simp only[den];exact Z7 h0.le.S h0.le.w (.sl e.ty) d [v] hr,h3⟩,h4,λi c hi=>h5 i c ?_⟩;by_cases hki:k=i
     ·subst hki;rw[he] at hi;simp at hi
     ·rw[List.getElem?_set_ne hki];exact hi
    ·rename_i t d
     obtain ⟨v',e1,h2⟩:=hI.ent k _ he;have:=h1.1.symm.trans e1;simp at this;subst this;obtain ⟨E',H',cs',h0,h1',h3,h4,h5⟩:=XI r hI hd.2 hk;exact ⟨E',H',.sl t d::cs',h0,h1',⟨by simp only[den];exact Z7 h0.le.S h0.le.w (.sl t) d [v] h2,h3⟩,h4,h5⟩
    ·exact hk.elim
   | mown k =>
    simp only[Qu] at hk;obtain ⟨e,he,hk⟩:=Yy H hk;have h1:=hd.1;simp only[den] at h1;have hlt:k<H.length:=(List.getElem?_eq_some_iff.1 he).1;split at hk
    ·rename_i kt vt d
     rw[YU] at hk;obtain ⟨S',hle,hI',hr,hS'⟩:=hI.ZvF he h1.1;have hf1:Frz E H ⟨S',E.w,E.ids⟩ (H.set k (.frm kt vt d)):=Frz.one he rfl h1.1 rfl hle hS';obtain ⟨E',H',cs',h0,h1',h3,h4,h5⟩:=XI r hI' (ZE hle _ _ hd.2) hk;refine ⟨E',H',.mp kt vt d::cs',hf1.trans h0,h1',⟨by simp only[den];exact Z7 h0.le.S h0.le.w (.mp kt vt) d [v] hr,h3⟩,h4,λi c hi=>h5 i c ?_⟩;by_cases hki:k=i
     ·subst hki;rw[he] at hi;simp at hi
     ·rw[List.getElem?_set_ne hki];exact hi
    ·rename_i kt vt d
     obtain ⟨v',e1,h2⟩:=hI.ent k _ he;have:=h1.1.symm.trans e1;simp at this;subst this;obtain ⟨E',H',cs',h0,h1',h3,h4,h5⟩:=XI r hI hd.2 hk;exact ⟨E',H',.mp kt vt d::cs',h0,h1',⟨by simp only[den];exact Z7 h0.le.S h0.le.w (.mp kt vt) d [v] h2,h3⟩,h4,h5⟩
    ·exact hk.elim
   | _=>exact other (by simpa only[Qu] using hk)
theorem Zkp {B:Base} (cs:List SV) {E:Env} {H:List Entry} (hI:Inv B E H) {vs:List Value} (hd:ZT E cs vs) {K:List SV->List Entry->Prop} (hk:Qu cs H K) :
  ∃ E' H' cs',E'.w=E.w/\E'.ids=E.ids/\Inv B E' H'/\E.le E'/\ZT E' cs' vs/\K cs' H':=by
 obtain ⟨E',H',cs',h0,h1,h2,h3,_⟩:=XI cs hI hd hk;exact ⟨E',H',cs',h0.w,h0.ids,h1,h0.le,h2,h3⟩
theorem ZmR {S:Nat->Prop} {w:World}:∀ (t:Ty) (d:t.den) (vs:List Value),rep S w t d vs->∀ u∈vs,u.oneCell'=true
 | .int _,_,_,h,u,hu=>by cases h;simp at hu;subst hu;rfl
 | .bool,_,_,h,u,hu=>by cases h;simp at hu;subst hu;rfl
 | .str,_,_,h,u,hu=>by cases h;simp at hu;subst hu;rfl
 | .unit,_,_,h,u,hu=>by cases h;simp at hu
 | .pair a b,_,_,⟨v1,v2,e,ha,hb⟩,u,hu=>by
   subst e;rcases List.mem_append.1 hu with hu | hu
   ·exact ZmR a _ _ ha u hu
   ·exact ZmR b _ _ hb u hu
 | .sl _,_,_,⟨a,cap,e,_⟩,u,hu=>by subst e;simp at hu;subst hu;rfl
 | .ptr _,_,_,⟨_,_,e,_⟩,u,hu=>by subst e;simp at hu;subst hu;rfl
 | .fn _ _,_,_,⟨_,e,_⟩,u,hu=>by subst e;simp at hu;subst hu;rfl
 | .mp _ _,_,_,.inl ⟨_,e⟩,u,hu=>by subst e;simp at hu;subst hu;rfl
 | .mp _ _,_,_,.inr ⟨_,_,_,e,_⟩,u,hu=>by subst e;simp at hu;subst hu;rfl
 | .nptr _,_,_,.inl ⟨_,e⟩,u,hu=>by subst e;simp at hu;subst hu;rfl
 | .nptr _,_,_,.inr ⟨_,_,_,_,e,_⟩,u,hu=>by subst e;simp at hu;subst hu;rfl
theorem ZiJ {t:Ty} {S:Nat->Prop} {w:World}:∀ (l:List t.den) (xs:List Value),XZ (rep S w t) l xs->∀ u∈xs,u.oneCell'=true
 | [],_,e,u,hu=>by cases e;simp at hu
 | d::l,_,⟨v1,v2,e,r,rs⟩,u,hu=>by
   subst e;rcases List.mem_append.1 hu with hu | hu
   ·exact ZmR t d v1 r u hu
   ·exact ZiJ l v2 rs u hu
theorem Zdk (w:World) (g:Nat) (cs:Array Value):w.grownBy (w.setRow g cs) (some g) :=
 ⟨rfl,rfl,rfl,by simp[World.setRow],λk _ hk=>setRow_other w g k cs (λe=>hk (by rw[e]))⟩
theorem ZfI {T:TypeId} {ti:TI} (h:ZbB P T ti) (w:World) (g o:Nat) (v:Value) (cur:Array Value) (E:TypeId) (hg:w.heap[g]?=some (.cells cur E (0,0)))
  (hsz:v.cells.size=ti.size) (hfit:o+ti.size<=cur.size) (h1:∀ u∈v.cells.toList,u.oneCell'=true) :
  (Instr.storeAt T (.pointer (some ⟨g,o,none⟩)) v).run P w=.ok () (w.setRow g (cur.toList.take o++v.cells.toList++cur.toList.drop (o+ti.size)).toArray):=by
 obtain ⟨i,hi,hs,_⟩:=h.info';have hst:=run_storeCells_at P g o E v.cells.toList 0 cur w hg (by simp[hsz];exact hfit) h1;simp only[Instr.storeAt,Instr.sureAddr,pure_bind,storeVar];rw[Sem.run_bind,run_sizeOf hi,Result.andThen_ok,hs];simp only[ne_eq,hsz,not_true_eq_false,if_false];rw[hst];simp[hsz]
def ZlF (cs:List SV) (n:Nat):Bool:=cs.length == n
def Zhs {α:Type} (old:List α) (off:Nat) (new:List α) (K:List α->Prop):Prop :=
 Zlz old off λa=>Zoj new 0 λn=>Zgj old (off+n) λc=>Zmi new c λbc=>Zmi a bc K
theorem Zfg {α:Type} (old:List α) (off:Nat) (new:List α) (K:List α->Prop):Zhs old off new K=K (old.take off++(new++old.drop (off+new.length))):=by
 simp[Zhs,ZfT,Zax,ZaN,Ju]
theorem Zei {E:Env} {cs:List SV} {vs:List Value} (h:ZT E cs vs) {ds:List SV} {us:List Value} (h':ZT E ds us) (off:Nat) :
  ZT E (cs.take off++(ds++cs.drop (off+ds.length))) (vs.take off++us++vs.drop (off+us.length)):=by
 rw[List.append_assoc,Yl _ _ h'];exact Jw _ _ (Zej _ _ h off) _ _ (Jw _ _ h' _ _ (Vv _ _ h _))
def Zqf (ti:TI) (sa sx:SV) (H:List Entry) (K:List Entry->Prop):Prop :=
 if (sx.whole&&ZlG sx.cells&&ZlF sx.cells ti.size)=true then
  match sa with
  | .ptr id off=>ZeE H id λe=>match e with
   | .box old=>if off+ti.size<=old.length then Zhs old off sx.cells λnew=>Zfk H id (.box new) K else False
   | _=>False
  | .oep id sz i off=>Qu sx.cells H λcs H'=>ZeE H' id λe=>match e with
   | .arr et t d=>t.size=sz/\off+ti.size<=t.size/\ZgM d i λx=>Qq t x λold=>Zhs old off cs λnew=>Xi t new λy _=>Zfk H' id (.arr et t (d.set i.toNat y)) K
   | _=>False
  | _=>False
 else False
theorem ZqR {t:Nat} (l vs:List Value) (N i off:Nat) (hN:N<=l.length) (hi:i*t+t<=N) (ho:off+vs.length<=t) :
  (l.take (i*t+off)++vs++l.drop (i*t+off+vs.length)).take N =
   (l.take N).take (i*t)++(((l.take N).drop (i*t)).take t |>.take off |> (·++vs++(((l.take N).drop (i*t)).take t).drop (off+vs.length)))++(l.take N).drop (i*t+t):=by
 generalize i*t=A at *;apply List.ext_getElem?;intro j;simp only[List.getElem?_append,List.getElem?_take,List.getElem?_drop,List.length_take,List.length_append,List.length_drop];have e1:min (A+off) l.length=A+off:=by omega
 have e2:min A (min N l.length)=A:=by omega
 have e3:min N l.length=N:=by omega
 have e4:min t (N-A)=t:=by omega
 have e5:min off t=off:=by omega
 simp only[e1,e2,e3,e4,e5];repeat' split
 all_goals first
  | rfl
  | (exfalso;omega)
  | (congr 1;omega)
  | (symm;apply List.getElem?_eq_none;omega)
  | (apply List.getElem?_eq_none;omega)
theorem ZfC {t:Nat} (l vs:List Value) (o N i off:Nat) (hN:o+N<=l.length) (hi:i*t+t<=N) (ho:off+vs.length<=t) :
  ((l.take (o+(i*t+off))++vs++l.drop (o+(i*t+off)+vs.length)).drop o).take N =
   ((l.drop o).take N).take (i*t)++((((l.drop o).take N).drop (i*t)).take t |>.take off |> (·++vs++((((l.drop o).take N).drop (i*t)).take t).drop (off+vs.length)))++((l.drop o).take N).drop (i*t+t):=by
 rw[<-ZqR (l.drop o) vs N i off (by rw[List.length_drop];omega) hi ho];congr 1;rw[List.take_add,List.append_assoc,List.append_assoc,List.drop_append_of_le_length (by rw[List.length_take];omega),List.drop_eq_nil_of_le (by rw[List.length_take];omega),List.nil_append,List.append_assoc,List.drop_drop,Nat.add_assoc]
theorem Zod {B:Base} {E:Env} {H:List Entry} (hI:Inv B E H) {T:TypeId} {ti:TI} (h:ZbB P T ti) {sa sx:SV} {va vx:Value} (ha:den E sa va) (hx:den E sx vx)
  {K:List Entry->Prop} (hk:Zqf ti sa sx H K) :
  ∃ E' H',(Instr.storeAt T va vx).run P E.w=.ok () E'.w/\Inv B E' H'/\E.le E'/\K H'/\E.w.grownBy E'.w (Yh va):=by
 unfold Zqf at hk;split at hk
 ·rename_i hc
  simp only[Bool.and_eq_true,ZlF,beq_iff_eq] at hc;obtain ⟨⟨hw,h1⟩,hlen⟩:=hc;have hdx:=Vt hx hw;have hl:=Yl _ _ hdx;have hone:=Zez _ _ hdx h1;have hsz:vx.cells.size=ti.size:=by rw[<-Array.length_toList,<-hl,hlen]
  have hsz':vx.cells.toList.length=ti.size:=by rw[<-hl,hlen]
  split at hk
  ·rename_i id off
   obtain ⟨e,he,hk⟩:=Yy H hk;split at hk
   ·rename_i old
    split at hk
    ·rename_i hfit
     rw[Zfg,YU] at hk;simp only[den] at ha;obtain ⟨b,e1,rfl⟩:=ha;obtain ⟨b',cs,T',e2,e3,e4⟩:=hI.ent id _ he;have:=e1.symm.trans e2;simp at this;subst this;have hol:=Yl _ _ e4;have hrun:=ZfI h E.w b off vx cs T' e3 hsz (by rw[<-Array.length_toList,<-hol];exact hfit) hone;have hg:=Zdk E.w b (cs.toList.take off++vx.cells.toList++cs.toList.drop (off+ti.size)).toArray;have hle:=Zce hg hI.Slt (λg e=>by simp at e;subst e;exact (hI.free id _ _ _ he rfl e1 rfl).1);refine ⟨⟨E.S,_,E.ids⟩,_,hrun,hI.write he rfl e1 hg _ ?_,hle,hk,hg⟩;refine ⟨b,_,T',e1,setRow_heap E.w b cs _ T' (0,0) e3,?_⟩;have:=Zei (ZE hle _ _ e4) (ZE hle _ _ hdx) off;rw[hsz'] at this;simpa using this
    ·exact hk.elim
   ·exact hk.elim
  ·rename_i id sz i off
   obtain ⟨E1,H1,cs',hw1,hid1,hI1,hle1,hd1,hk⟩:=Zkp _ hI hdx hk;obtain ⟨e,he,hk⟩:=Yy H1 hk;split at hk
   ·rename_i et t d
    obtain ⟨hts,hot,hi0,hlt',hk⟩:=hk;have hlt:i.toNat<d.length:=by omega
    obtain ⟨x,hx'⟩:∃ x,d[i.toNat]?=some x:=⟨_,List.getElem?_eq_getElem hlt⟩;have hk:=hk x hx';simp only[Xr,Zfg] at hk;simp only[den] at ha;obtain ⟨b,bo,n,c,e1,rfl⟩:=ha;have e1':E1.ids[id]?=some (.slice (some ⟨b,bo,none⟩) n c):=by rw[hid1];exact e1
    obtain ⟨v',xs,e2,hown,hreps⟩:=hI1.ent id _ he;have:=e1'.symm.trans e2;simp at this;subst this;rcases hown.2 with ⟨hv,_⟩ | ⟨g,cap,cur,o,hv,hg0,hh,hcap,hml,hcs,htake⟩
    ·simp at hv
    ·simp only[Value.slice.injEq,Option.some.injEq,Addr.mk.injEq,and_true] at hv
     obtain ⟨⟨hbg,hbo⟩,hnl,hcc⟩:=hv;subst hbg;subst hbo;rw[<-hts];rw[hw1] at hh;have hcl:cur.toList.length=cur.size:=Array.length_toList;have hNle:bo+d.length*t.size<=cur.toList.length:=by
      rw[hcl];exact Nat.le_trans (Nat.add_le_add_left (Nat.mul_le_mul_right _ hcap) _) hcs
     have hit:i.toNat*t.size+t.size<=d.length*t.size:=by
      rw[<-Nat.succ_mul];exact Nat.mul_le_mul_right _ hlt
     have hrun:=ZfI h E.w b (bo+(i.toNat*t.size+off)) vx cur et hh hsz (by rw[<-hcl];omega) hone;have hg:=Zdk E1.w b (cur.toList.take (bo+(i.toNat*t.size+off))++vx.cells.toList++cur.toList.drop (bo+(i.toNat*t.size+off)+ti.size)).toArray;have hle:=Zce hg hI1.Slt (λg e=>by simp at e;subst e;exact (hI1.free id _ _ _ he rfl e1' rfl).1);have hdrop:=Zhl (λd vs=>Xj t d vs) _ _ hreps i.toNat;have hdc:d.drop i.toNat=x::d.drop (i.toNat+1):=by
      rw[List.drop_eq_getElem_cons hlt];have:=List.getElem?_eq_getElem hlt;rw[hx'] at this;simp at this;rw[this]
     rw[hdc] at hdrop;obtain ⟨v1,v2,hv12,hrx,_⟩:=hdrop;have hl1:=Xj t x v1 hrx;have hv1:v1=(xs.drop (i.toNat*t.size)).take t.size:=by rw[hv12,<-hl1];simp
     have hnew:=Zei (ZE hle _ _ (Y0 t x v1 hrx)) (ZE hle _ _ hd1) off;obtain ⟨y,r,w1,w2,hww,hry,_,hky⟩:=Y4 t _ _ _ hnew hk;rw[YU] at hky;have hly:=Xj t y w1 hry;have hw2:w2=[]:=by
      have:=congrArg List.length hww;simp only[List.length_append,List.length_take,List.length_drop,hl1,hly,hsz'] at this;apply List.eq_nil_of_length_eq_zero;omega
     subst hw2;rw[List.append_nil] at hww;refine ⟨⟨E1.S,E1.w.setRow b _,E1.ids⟩,_,?_,hI1.write he rfl e1' hg _ ?_,hle1.trans hle,hky,by rw[<-hw1];exact hg⟩
     ·rw[hw1];exact hrun
     ·have hreps':=QD (R':=rep E1.S (E1.w.setRow b (cur.toList.take (bo+(i.toNat*t.size+off))++vx.cells.toList++cur.toList.drop (bo+(i.toNat*t.size+off)+ti.size)).toArray) t) (λd vs=>Z7 hle.S hle.w t d vs) _ _ hreps
      have hset:=ZlX (λd vs=>Xj t d vs) _ _ hreps' i.toNat y w1 hlt hry;refine ⟨_,_,e1',⟨?_,.inr ⟨b,cap,_,bo,?_,hg0,setRow_heap E1.w b cur _ et (0,0) (by rw[hw1];exact hh),by simpa using hcap,hml,?_,rfl⟩⟩,?_⟩
      ·rw[List.length_take,List.toList_toArray,List.length_set]
       simp only[List.length_append,List.length_take,List.length_drop,hsz'];omega
      ·rw[List.length_set,hnl,hcc]
      ·rw[List.size_toArray]
       simp only[List.length_append,List.length_take,List.length_drop,hsz'];rw[<-hcl] at hcs;omega
      ·rw[List.length_set]
       have hsp:=ZfC (t:=t.size) cur.toList vx.cells.toList bo (d.length*t.size) i.toNat off hNle hit (by rw[hsz'];omega);rw[hsz'] at hsp;rw[List.toList_toArray,hsp,htake,<-hv1];rw[<-hsz'] at hset ⊢;rw[<-hww] at hset;exact hset
   ·exact hk.elim
  ·exact hk.elim
 ·exact hk.elim
end
end Go.Sx
