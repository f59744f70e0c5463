/-
  An element of a list that owns more lists is opened: its cells as symbolic values, its lists as entries of their own; and closed again.
-/
import Derived.Test.YtnnbgbgapogckaaGreatDoorSxOps8
namespace Go.Sx
set_option linter.unusedVariables false
set_option linter.unusedSimpArgs false
theorem Zcm {S:Nat→Prop} {w:World} {t:Ty}:∀ (l:List t.den) (xs:List Value) (fp:List Nat),Qc (JK S w (.flat t)) l xs fp→fp=[]∧Yj (rep S w t) l xs
 | [],xs,fp,h=>⟨h.2,h.1⟩
 | d::l,xs,fp,⟨v1,v2,f1,f2,e,ef,r,rs⟩=>by
  obtain ⟨h1,h2⟩:=Zcm l v2 f2 rs
  have h3:f1=[]:=r.1
  exact ⟨by rw [ef,h1,h3];rfl,v1,v2,e,r.2,h2⟩
theorem ZcC {S:Nat→Prop} {w:World} {t:Ty}:∀ (l:List t.den) (xs:List Value),Yj (rep S w t) l xs→Qc (JK S w (.flat t)) l xs []
 | [],xs,h=>⟨h,rfl⟩
 | d::l,xs,⟨v1,v2,e,r,rs⟩=>⟨v1,v2,[],[],e,rfl,⟨rfl,r⟩,ZcC l v2 rs⟩
def Yu:(e:Dp)→e.ty.den→List Entry→(List SV→List Entry→Prop)→Prop
 | .flat t,x,H,K=>YK t x fun cs=>K cs H
 | .ol et (.flat t),l,H,K=>Jp et t l H fun s H'=>K [s] H'
 | .ol et (.ol et2 e),l,H,K=>∀ fp:List Nat,ZgB H 0 fun n=>Ze9 H [.darr et (.ol et2 e) l fp] fun H'=>K [.own n] H'
 | .ol et (.pair a b),l,H,K=>∀ fp:List Nat,ZgB H 0 fun n=>Ze9 H [.darr et (.pair a b) l fp] fun H'=>K [.own n] H'
 | .ol et (.mp k v),l,H,K=>∀ fp:List Nat,ZgB H 0 fun n=>Ze9 H [.darr et (.mp k v) l fp] fun H'=>K [.own n] H'
 | .mp k v,d,H,K=>ZgB H 0 fun n=>Ze9 H [.mpe k v d] fun H'=>K [.mown n] H'
 | .pair a b,d,H,K=>splitK d fun x y=>Yu a x H fun c1 H1=>Yu b y H1 fun c2 H2=>Ze9 c1 c2 fun cs=>K cs H2
theorem Zdx {E:Env} {id:Nat} {et:TypeId} {sz n:Nat} {v:Value} {xs:List Value} (h:E.ids[id]?=some v) (ho:E.w.Y9 0 et sz v n xs):den E (.own id) v:=by
 simp only [den]
 refine ⟨h,?_⟩
 rcases ho.2 with ⟨rfl,_⟩ | ⟨g,cap,cur,o,rfl,_⟩
 ·exact ⟨_,_,_,rfl⟩
 ·exact ⟨_,_,_,rfl⟩
theorem Y2 {B:Base}:∀ (e:Dp) (x:e.ty.den) {E:Env} {H:List Entry} (_:Inv B E H) {vs:List Value} {f gs:List Nat} (_:JK E.S E.w e x vs f) (_:Loose B E H (f++gs)) {K:List SV→List Entry→Prop} (_:Yu e x H K),
  ∃ E' H' cs,E'.w=E.w∧E'.S=E.S∧Inv B E' H'∧E.le E'∧Zy E' cs vs∧K cs H'∧Loose B E' H' gs∧∃ l,H'=H++l
 | .flat t,x,E,H,hI,vs,f,gs,⟨e1,hr⟩,hL,K,hk=>by
  simp only [Yu,Z6] at hk
  subst e1
  exact ⟨E,H,_,rfl,rfl,hI,Env.le.refl E,ZV t x vs hr,hk,hL,[],by simp⟩
 | .ol et (.flat t),l,E,H,hI,vs,f,gs,⟨v,xs,fps,e1,ho,hr,e2⟩,hL,K,hk=>by
  simp only [Yu,Jp,Qt,XW,Nat.zero_add] at hk
  obtain ⟨h1,h2⟩:=Zcm _ _ _ hr
  have hid:(E.ids++[v])[H.length]?=some v:=by rw [←hI.len];simp
  obtain ⟨hI',hL'⟩:=hL.push hI v (.arr et t l) (fun _ g hg=>by
   have hg:ZH v=some g:=hg
   rw [e2];simp [hg]) ⟨v,xs,hid,ho,h2⟩
  exact ⟨⟨E.S,E.w,E.ids++[v]⟩,_,_,rfl,rfl,hI',ZaY E v,by subst e1;exact ⟨Zdx hid ho,trivial⟩,hk,hL',_,rfl⟩
 | .ol et (.ol et2 e),l,E,H,hI,vs,f,gs,⟨v,xs,fps,e1,ho,hr,e2⟩,hL,K,hk=>by
  simp only [Yu] at hk
  have hk:=hk f
  simp only [Qt,XW,Nat.zero_add] at hk
  have hid:(E.ids++[v])[H.length]?=some v:=by rw [←hI.len];simp
  obtain ⟨hI',hL'⟩:=hL.push hI v (.darr et (.ol et2 e) l f) (fun _ g hg=>hg) ⟨v,xs,fps,hid,ho,hr,e2,(List.nodup_append.1 hL.nodup).1⟩
  exact ⟨⟨E.S,E.w,E.ids++[v]⟩,_,_,rfl,rfl,hI',ZaY E v,by subst e1;exact ⟨Zdx hid ho,trivial⟩,hk,hL',_,rfl⟩
 | .ol et (.pair a b),l,E,H,hI,vs,f,gs,⟨v,xs,fps,e1,ho,hr,e2⟩,hL,K,hk=>by
  simp only [Yu] at hk
  have hk:=hk f
  simp only [Qt,XW,Nat.zero_add] at hk
  have hid:(E.ids++[v])[H.length]?=some v:=by rw [←hI.len];simp
  obtain ⟨hI',hL'⟩:=hL.push hI v (.darr et (.pair a b) l f) (fun _ g hg=>hg) ⟨v,xs,fps,hid,ho,hr,e2,(List.nodup_append.1 hL.nodup).1⟩
  exact ⟨⟨E.S,E.w,E.ids++[v]⟩,_,_,rfl,rfl,hI',ZaY E v,by subst e1;exact ⟨Zdx hid ho,trivial⟩,hk,hL',_,rfl⟩
 | .ol et (.mp kt vt),l,E,H,hI,vs,f,gs,⟨v,xs,fps,e1,ho,hr,e2⟩,hL,K,hk=>by
  simp only [Yu] at hk
  have hk:=hk f
  simp only [Qt,XW,Nat.zero_add] at hk
  have hid:(E.ids++[v])[H.length]?=some v:=by rw [←hI.len];simp
  obtain ⟨hI',hL'⟩:=hL.push hI v (.darr et (.mp kt vt) l f) (fun _ g hg=>hg) ⟨v,xs,fps,hid,ho,hr,e2,(List.nodup_append.1 hL.nodup).1⟩
  exact ⟨⟨E.S,E.w,E.ids++[v]⟩,_,_,rfl,rfl,hI',ZaY E v,by subst e1;exact ⟨Zdx hid ho,trivial⟩,hk,hL',_,rfl⟩
 | .mp kt vt,d,E,H,hI,vs,f,gs,⟨b,es,clk,e1,e2,hh,hr⟩,hL,K,hk=>by
  simp only [Yu,Qt,XW,Nat.zero_add] at hk
  have hid:(E.ids++[(.map (some b):Value)])[H.length]?=some (.map (some b)):=by rw [←hI.len];simp
  obtain ⟨hI',hL'⟩:=hL.push hI (.map (some b)) (.mpe kt vt d) (fun _ g hg=>by
   have hg:ZH (.map (some b))=some g:=hg
   simp [ZH] at hg
   rw [e2];simp [hg]) ⟨b,es,clk,hid,hh,hr⟩
  exact ⟨⟨E.S,E.w,E.ids++[.map (some b)]⟩,_,_,rfl,rfl,hI',ZaY E _,by subst e1;exact ⟨by simp only [den];exact ⟨hid,_,rfl⟩,trivial⟩,hk,hL',_,rfl⟩
 | .pair a b,d,E,H,hI,vs,f,gs,⟨v1,v2,f1,f2,e1,e2,h1,h2⟩,hL,K,hk=>by
  simp only [Yu,Y0] at hk
  subst e1;subst e2
  rw [List.append_assoc] at hL
  obtain ⟨E1,H1,c1,hw1,hS1,hI1,hle1,hd1,hk,hL1,l1,hl1⟩:=Y2 a d.1 hI h1 hL hk
  have h2':JK E1.S E1.w b d.2 v2 f2:=by rw [hS1,hw1];exact h2
  obtain ⟨E2,H2,c2,hw2,hS2,hI2,hle2,hd2,hk,hL2,l2,hl2⟩:=Y2 b d.2 hI1 h2' hL1 hk
  rw [XW] at hk
  exact ⟨E2,H2,_,hw2.trans hw1,hS2.trans hS1,hI2,hle1.trans hle2,XZ _ _ (Zl hle2 _ _ hd1) _ _ hd2,hk,hL2,l1++l2,by rw [hl2,hl1,List.append_assoc]⟩
def Zl2 (et:TypeId):(e:Dp)→Nat→List e.ty.den→List Entry→(List Entry→Prop)→Prop
 | .flat t,id,d,H,K=>JL H id (.arr et t d) K
 | .ol et2 e,id,d,H,K=>∀ fp:List Nat,JL H id (.darr et (.ol et2 e) d fp) K
 | .pair a b,id,d,H,K=>∀ fp:List Nat,JL H id (.darr et (.pair a b) d fp) K
 | .mp k v,id,d,H,K=>∀ fp:List Nat,JL H id (.darr et (.mp k v) d fp) K
theorem ZjC {B:Base} {et:TypeId}:∀ (e:Dp) {E:Env} {H:List Entry} (_:Inv B E H) {id:Nat} {v:Value} (_:id<H.length) (_:E.ids[id]?=some v) {d:List e.ty.den} {f gs:List Nat} (_:JK E.S E.w (.ol et e) d [v] f) (_:Loose B E H (f++gs)) {K:List Entry→Prop} (_:Zl2 et e id d H K),
  ∃ e1,Inv B E (H.set id e1)∧Loose B E (H.set id e1) gs∧K (H.set id e1)∧(∀ c,e1≠.box c)
 | .flat t,E,H,hI,id,v,hlt,hv,d,f,gs,⟨v',xs,fps,ev,ho,hr,ef⟩,hL,K,hk=>by
  simp only [Zl2,ZT] at hk
  simp at ev;subst ev
  obtain ⟨h1,h2⟩:=Zcm _ _ _ hr
  obtain ⟨a,b⟩:=hL.put hI hlt hv (.arr et t d) (fun _ g hg=>by
   have hg:ZH v=some g:=hg
   rw [ef];simp [hg]) ⟨v,xs,hv,ho,h2⟩
  exact ⟨_,a,b,hk,fun c h=>by cases h⟩
 | .ol et2 e,E,H,hI,id,v,hlt,hv,d,f,gs,⟨v',xs,fps,ev,ho,hr,ef⟩,hL,K,hk=>by
  simp only [Zl2] at hk
  have hk:=hk f
  rw [ZT] at hk
  simp at ev;subst ev
  obtain ⟨a,b⟩:=hL.put hI hlt hv (.darr et (.ol et2 e) d f) (fun _ g hg=>hg) ⟨v,xs,fps,hv,ho,hr,ef,(List.nodup_append.1 hL.nodup).1⟩
  exact ⟨_,a,b,hk,fun c h=>by cases h⟩
 | .mp kt vt,E,H,hI,id,v,hlt,hv,d,f,gs,⟨v',xs,fps,ev,ho,hr,ef⟩,hL,K,hk=>by
  simp only [Zl2] at hk
  have hk:=hk f
  rw [ZT] at hk
  simp at ev;subst ev
  obtain ⟨x,y⟩:=hL.put hI hlt hv (.darr et (.mp kt vt) d f) (fun _ g hg=>hg) ⟨v,xs,fps,hv,ho,hr,ef,(List.nodup_append.1 hL.nodup).1⟩
  exact ⟨_,x,y,hk,fun c h=>by cases h⟩
 | .pair a b,E,H,hI,id,v,hlt,hv,d,f,gs,⟨v',xs,fps,ev,ho,hr,ef⟩,hL,K,hk=>by
  simp only [Zl2] at hk
  have hk:=hk f
  rw [ZT] at hk
  simp at ev;subst ev
  obtain ⟨x,y⟩:=hL.put hI hlt hv (.darr et (.pair a b) d f) (fun _ g hg=>hg) ⟨v,xs,fps,hv,ho,hr,ef,(List.nodup_append.1 hL.nodup).1⟩
  exact ⟨_,x,y,hk,fun c h=>by cases h⟩
end Go.Sx
