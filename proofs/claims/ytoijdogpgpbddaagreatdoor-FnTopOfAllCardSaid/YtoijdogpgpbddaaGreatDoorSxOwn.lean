/-
  A contract by which a result's lists are handed out as data.
-/
import Derived.Test.YtoijdogpgpbddaaGreatDoorSxLib
namespace Go.Proofs.YtoijdogpgpbddaaGreatDoor
set_option linter.unusedVariables false
open Go Go.Sx
theorem ZE1 {P:Program} {f:FuncId} {args:List Sh} (W:Zcy args=true) {e:Dp} {t:Ty} {tr:Shs args->(Shs [.own e,.dat t]->Ios args->Prop)->Prop} (h:Zc P f ⟨args,[.own e,.dat t],tr⟩):Zc P f ⟨args,[.dat e.ty,.dat t],tr⟩:=by
 refine⟨h.1,λw S vs D x K Q N l m M=>(h.2 w S vs D x K Q N l m M).mono ?_⟩;rintro e0 w' ⟨v,us,rs,i,S',fr,o,R,Y,T,d,y,O,⟨u,ur,F,f2,E,q,⟨n,z⟩,⟨u2,U,f3,f4,r,s,⟨A,B,C,I⟩,G,L⟩⟩,k,p,J⟩;have Z:=iosden_fp args W i vs o k;subst q s A L Z;have X:∀b,b∈F->b∈[]++(F++([]++[])):=λb H=>by simp[H]
 refine⟨v,us,rs,i,(λb=>S' b\/b∈F),[],[],R,Y,T,d,λb H=>.inl (y b H),λb H=>?_,?_,ZnK args W i vs (Zj5 args D vs _ N),KW,λg j=>by cases j⟩
 ·rcases H with H|H
  ·exact O b H
  ·obtain⟨_,a,c⟩:=J b (X b H)
   exact ⟨a,λV=>by
    rcases c with c|c
    ·omega
    ·exact .inr c⟩
 ·exact⟨u,ur,[],[],E,rfl,⟨rfl,n.1,n.2,ZgD (S:=S') (λ_ h=>.inl h) e _ _ F (λg j=>.inr j) z⟩,u2,U,[],[],r,rfl,⟨rfl,B,C,YL (λ_ h=>.inl h) (λ_ _=>rfl) t _ _ I⟩,G,rfl⟩
where
 iosden_fp {S:Nat->Prop} {w:World}:∀(l:List Sh) (_:Zcy l=true) (ios:Ios l) (vs:List Value) (fio:List Nat),Zig S w l ios vs fio->fio=[]
  |[],_,_,_,_,h=>h
  | .dat _::r,h,ios,_,fio,⟨_,vr,_,h2⟩=>iosden_fp r h ios vr fio h2
  | .own _::_,h,_,_,_,_=>by simp[Zcy]at h
  | .io _::_,h,_,_,_,_=>by simp[Zcy]at h
  | .back _::_,h,_,_,_,_=>by simp[Zcy]at h
end Go.Proofs.YtoijdogpgpbddaaGreatDoor
