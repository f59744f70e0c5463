/-
  An element of a list that owns more lists is opened: its cells as symbolic values, its lists as entries of their own; and closed again.
-/
import Derived.Test.YtgjjlgodlhhdoaaGreatDoorSxOps8
namespace Go.Sx
set_option linter.unusedVariables false
set_option linter.unusedSimpArgs false
theorem ZiH {S:Nat->Prop} {w:World} {t:Ty}:∀ (l:List t.den) (xs:List Value) (fp:List Nat),JV (Zfj S w (.flat t)) l xs fp->fp=[]/\XZ (rep S w t) l xs
 | [],xs,fp,h=>⟨h.2,h.1⟩
 | d::l,xs,fp,⟨v1,v2,f1,f2,e,ef,r,rs⟩=>by
  obtain ⟨h1,h2⟩:=ZiH l v2 f2 rs;have h3:f1=[]:=r.1;exact ⟨by rw[ef,h1,h3];rfl,v1,v2,e,r.2,h2⟩
theorem Zi3 {S:Nat->Prop} {w:World} {t:Ty}:∀ (l:List t.den) (xs:List Value),XZ (rep S w t) l xs->JV (Zfj S w (.flat t)) l xs []
 | [],xs,h=>⟨h,rfl⟩
 | d::l,xs,⟨v1,v2,e,r,rs⟩=>⟨v1,v2,[],[],e,rfl,⟨rfl,r⟩,Zi3 l v2 rs⟩
def Qg:(e:Dp)->e.ty.den->List Entry->(List SV->List Entry->Prop)->Prop
 | .flat t,x,H,K=>Qq t x λcs=>K cs H
 | .ol et (.flat t),l,H,K=>ZeM et t l H λs H'=>K [s] H'
 | .ol et (.ol et2 e),l,H,K=>∀ fp:List Nat,Zoj H 0 λn=>Zmi H [.darr et (.ol et2 e) l fp] λH'=>K [.own n] H'
 | .ol et (.pair a b),l,H,K=>∀ fp:List Nat,Zoj H 0 λn=>Zmi H [.darr et (.pair a b) l fp] λH'=>K [.own n] H'
 | .ol et (.mp k v),l,H,K=>∀ fp:List Nat,Zoj H 0 λn=>Zmi H [.darr et (.mp k v) l fp] λH'=>K [.own n] H'
 | .mp k v,d,H,K=>Zoj H 0 λn=>Zmi H [.mpe k v d] λH'=>K [.mown n] H'
 | .pair a b,d,H,K=>splitK d λx y=>Qg a x H λc1 H1=>Qg b y H1 λc2 H2=>Zmi c1 c2 λcs=>K cs H2
theorem ZkL {E:Env} {id:Nat} {et:TypeId} {sz n:Nat} {v:Value} {xs:List Value} (h:E.ids[id]?=some v) (ho:E.w.Q8 0 et sz v n xs):den E (.own id) v:=by
 simp only[den];refine ⟨h,?_⟩;rcases ho.2 with ⟨rfl,_⟩ | ⟨g,cap,cur,o,rfl,_⟩
 ·exact ⟨_,_,_,rfl⟩
 ·exact ⟨_,_,_,rfl⟩
theorem QS {B:Base}:∀ (e:Dp) (x:e.ty.den) {E:Env} {H:List Entry} (_:Inv B E H) {vs:List Value} {f gs:List Nat} (_:Zfj E.S E.w e x vs f) (_:Loose B E H (f++gs)) {K:List SV->List Entry->Prop} (_:Qg e x H K),
  ∃ E' H' cs,E'.w=E.w/\E'.S=E.S/\Inv B E' H'/\E.le E'/\ZT E' cs vs/\K cs H'/\Loose B E' H' gs/\∃ l,H'=H++l
 | .flat t,x,E,H,hI,vs,f,gs,⟨e1,hr⟩,hL,K,hk=>by
  simp only[Qg,Xr] at hk;subst e1;exact ⟨E,H,_,rfl,rfl,hI,Env.le.refl E,Y0 t x vs hr,hk,hL,[],by simp⟩
 | .ol et (.flat t),l,E,H,hI,vs,f,gs,⟨v,xs,fps,e1,ho,hr,e2⟩,hL,K,hk=>by
  simp only[Qg,ZeM,Zax,Ju,Nat.zero_add] at hk;obtain ⟨h1,h2⟩:=ZiH _ _ _ hr;have hid:(E.ids++[v])[H.length]?=some v:=by rw[<-hI.len];simp
  obtain ⟨hI',hL'⟩:=hL.push hI v (.arr et t l) (λ_ g hg=>by
   have hg:Yh v=some g:=hg;rw[e2];simp[hg]) ⟨v,xs,hid,ho,h2⟩
  exact ⟨⟨E.S,E.w,E.ids++[v]⟩,_,_,rfl,rfl,hI',ZgZ E v,by subst e1;exact ⟨ZkL hid ho,trivial⟩,hk,hL',_,rfl⟩
 | .ol et (.ol et2 e),l,E,H,hI,vs,f,gs,⟨v,xs,fps,e1,ho,hr,e2⟩,hL,K,hk=>by
  simp only[Qg] at hk;have hk:=hk f;simp only[Zax,Ju,Nat.zero_add] at hk;have hid:(E.ids++[v])[H.length]?=some v:=by rw[<-hI.len];simp
  obtain ⟨hI',hL'⟩:=hL.push hI v (.darr et (.ol et2 e) l f) (λ_ g hg=>hg) ⟨v,xs,fps,hid,ho,hr,e2,(List.nodup_append.1 hL.nodup).1⟩;exact ⟨⟨E.S,E.w,E.ids++[v]⟩,_,_,rfl,rfl,hI',ZgZ E v,by subst e1;exact ⟨ZkL hid ho,trivial⟩,hk,hL',_,rfl⟩
 | .ol et (.pair a b),l,E,H,hI,vs,f,gs,⟨v,xs,fps,e1,ho,hr,e2⟩,hL,K,hk=>by
  simp only[Qg] at hk;have hk:=hk f;simp only[Zax,Ju,Nat.zero_add] at hk;have hid:(E.ids++[v])[H.length]?=some v:=by rw[<-hI.len];simp
  obtain ⟨hI',hL'⟩:=hL.push hI v (.darr et (.pair a b) l f) (λ_ g hg=>hg) ⟨v,xs,fps,hid,ho,hr,e2,(List.nodup_append.1 hL.nodup).1⟩;exact ⟨⟨E.S,E.w,E.ids++[v]⟩,_,_,rfl,rfl,hI',ZgZ E v,by subst e1;exact ⟨ZkL hid ho,trivial⟩,hk,hL',_,rfl⟩
 | .ol et (.mp kt vt),l,E,H,hI,vs,f,gs,⟨v,xs,fps,e1,ho,hr,e2⟩,hL,K,hk=>by
  simp only[Qg] at hk;have hk:=hk f;simp only[Zax,Ju,Nat.zero_add] at hk;have hid:(E.ids++[v])[H.length]?=some v:=by rw[<-hI.len];simp
  obtain ⟨hI',hL'⟩:=hL.push hI v (.darr et (.mp kt vt) l f) (λ_ g hg=>hg) ⟨v,xs,fps,hid,ho,hr,e2,(List.nodup_append.1 hL.nodup).1⟩;exact ⟨⟨E.S,E.w,E.ids++[v]⟩,_,_,rfl,rfl,hI',ZgZ E v,by subst e1;exact ⟨ZkL hid ho,trivial⟩,hk,hL',_,rfl⟩
 | .mp kt vt,d,E,H,hI,vs,f,gs,⟨b,es,clk,e1,e2,hh,hr⟩,hL,K,hk=>by
  simp only[Qg,Zax,Ju,Nat.zero_add] at hk;have hid:(E.ids++[(.map (some b):Value)])[H.length]?=some (.map (some b)):=by rw[<-hI.len];simp
  obtain ⟨hI',hL'⟩:=hL.push hI (.map (some b)) (.mpe kt vt d) (λ_ g hg=>by
   have hg:Yh (.map (some b))=some g:=hg;simp[Yh] at hg;rw[e2];simp[hg]) ⟨b,es,clk,hid,hh,hr⟩
  exact ⟨⟨E.S,E.w,E.ids++[.map (some b)]⟩,_,_,rfl,rfl,hI',ZgZ E _,by subst e1;exact ⟨by simp only[den];exact ⟨hid,_,rfl⟩,trivial⟩,hk,hL',_,rfl⟩
 | .pair a b,d,E,H,hI,vs,f,gs,⟨v1,v2,f1,f2,e1,e2,h1,h2⟩,hL,K,hk=>by
  simp only[Qg,QK] at hk;subst e1;subst e2;rw[List.append_assoc] at hL;obtain ⟨E1,H1,c1,hw1,hS1,hI1,hle1,hd1,hk,hL1,l1,hl1⟩:=QS a d.1 hI h1 hL hk;have h2':Zfj E1.S E1.w b d.2 v2 f2:=by rw[hS1,hw1];exact h2
  obtain ⟨E2,H2,c2,hw2,hS2,hI2,hle2,hd2,hk,hL2,l2,hl2⟩:=QS b d.2 hI1 h2' hL1 hk;rw[Ju] at hk;exact ⟨E2,H2,_,hw2.trans hw1,hS2.trans hS1,hI2,hle1.trans hle2,Jw _ _ (ZE hle2 _ _ hd1) _ _ hd2,hk,hL2,l1++l2,by rw[hl2,hl1,List.append_assoc]⟩
def ZvV (et:TypeId):(e:Dp)->Nat->List e.ty.den->List Entry->(List Entry->Prop)->Prop
 | .flat t,id,d,H,K=>Zfk H id (.arr et t d) K
 | .ol et2 e,id,d,H,K=>∀ fp:List Nat,Zfk H id (.darr et (.ol et2 e) d fp) K
 | .pair a b,id,d,H,K=>∀ fp:List Nat,Zfk H id (.darr et (.pair a b) d fp) K
 | .mp k v,id,d,H,K=>∀ fp:List Nat,Zfk H id (.darr et (.mp k v) d fp) K
theorem Zsw {B:Base} {et:TypeId}:∀ (e:Dp) {E:Env} {H:List Entry} (_:Inv B E H) {id:Nat} {v:Value} (_:id<H.length) (_:E.ids[id]?=some v) {d:List e.ty.den} {f gs:List Nat} (_:Zfj E.S E.w (.ol et e) d [v] f) (_:Loose B E H (f++gs)) {K:List Entry->Prop} (_:ZvV et e id d H K),
  ∃ e1,Inv B E (H.set id e1)/\Loose B E (H.set id e1) gs/\K (H.set id e1)/\(∀ c,e1≠.box c)
 | .flat t,E,H,hI,id,v,hlt,hv,d,f,gs,⟨v',xs,fps,ev,ho,hr,ef⟩,hL,K,hk=>by
  simp only[ZvV,YU] at hk;simp at ev;subst ev;obtain ⟨h1,h2⟩:=ZiH _ _ _ hr;obtain ⟨a,b⟩:=hL.put hI hlt hv (.arr et t d) (λ_ g hg=>by
   have hg:Yh v=some g:=hg;rw[ef];simp[hg]) ⟨v,xs,hv,ho,h2⟩
  exact ⟨_,a,b,hk,λc h=>by cases h⟩
 | .ol et2 e,E,H,hI,id,v,hlt,hv,d,f,gs,⟨v',xs,fps,ev,ho,hr,ef⟩,hL,K,hk=>by
  simp only[ZvV] at hk;have hk:=hk f;rw[YU] at hk;simp at ev;subst ev;obtain ⟨a,b⟩:=hL.put hI hlt hv (.darr et (.ol et2 e) d f) (λ_ g hg=>hg) ⟨v,xs,fps,hv,ho,hr,ef,(List.nodup_append.1 hL.nodup).1⟩;exact ⟨_,a,b,hk,λc h=>by cases h⟩
 | .mp kt vt,E,H,hI,id,v,hlt,hv,d,f,gs,⟨v',xs,fps,ev,ho,hr,ef⟩,hL,K,hk=>by
  simp only[ZvV] at hk;have hk:=hk f;rw[YU] at hk;simp at ev;subst ev;obtain ⟨x,y⟩:=hL.put hI hlt hv (.darr et (.mp kt vt) d f) (λ_ g hg=>hg) ⟨v,xs,fps,hv,ho,hr,ef,(List.nodup_append.1 hL.nodup).1⟩;exact ⟨_,x,y,hk,λc h=>by cases h⟩
 | .pair a b,E,H,hI,id,v,hlt,hv,d,f,gs,⟨v',xs,fps,ev,ho,hr,ef⟩,hL,K,hk=>by
  simp only[ZvV] at hk;have hk:=hk f;rw[YU] at hk;simp at ev;subst ev;obtain ⟨x,y⟩:=hL.put hI hlt hv (.darr et (.pair a b) d f) (λ_ g hg=>hg) ⟨v,xs,fps,hv,ho,hr,ef,(List.nodup_append.1 hL.nodup).1⟩;exact ⟨_,x,y,hk,λc h=>by cases h⟩
end Go.Sx
