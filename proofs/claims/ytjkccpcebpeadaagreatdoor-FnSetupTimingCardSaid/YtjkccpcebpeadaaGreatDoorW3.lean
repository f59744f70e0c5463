/-
  The functions keep their contracts, if what they call does. Printed by program.
-/
import Derived.Test.YtjkccpcebpeadaaGreatDoorM
import Derived.KernelRfl
namespace Go.Proofs.YtjkccpcebpeadaaGreatDoor
open Go Go.Sx
set_option maxRecDepth 100000
set_option maxHeartbeats 100000000
set_option linter.unusedVariables false
set_option linter.unusedSimpArgs false
theorem w_laws_FnSetupTiming (E:Sq 5 c0) (Q:Sq 6 c28) (y:Sq 7 ZEe) (z:Sq 8 c234) (v:Sq 9 ZEG) (A:Sq 10 c236) (s:Sq 11 ZEP) (D:Sq 12 ZER) (C:Sq 13 ZES):Sq 3 ZfN:=by
 refine Hw Zy (Zb E (Zb Q (Zb y (Zb z (Zb v (Zb A (Zb s (Zb D (Zb C Zl))))))))) {draws:=[(12,[],.can (.u 0 8 (.alt 8 (.o [9,10,11] (.a [12,13] (.op 14 .done))) (.a [12,8] (.o [9,10,11] (.alt 13 (.op 14 .done) .done)))))),(13,[],.u 0 5 (.alt 5 (.u 6 6 (.alt 12 (.o [13,14,15] .done) .done)) .done))]} Tryz.func3 ?_;rintro⟨a0,⟨⟩⟩ K ⟨r,h,k⟩
 change JR a0=some r at h
 unfold JR at h
 conv=>whnf
 refine Ziu h (λB j h=>?_)
 conv=>whnf
 refine ZxI h (λh=>?_) (λh=>?_)
 conv=>whnf
 cases h;exact k
 conv=>whnf
 refine Ziu h (λDrawSetupTiming0 l h=>?_)
 conv=>whnf
 intro f
 conv=>whnf
 intro F
 conv=>whnf
 intro g
 conv=>whnf
 intro i
 conv=>whnf
 refine Ziu h (λSetupTiming0 m h=>?_)
 conv=>whnf
 refine Ziu h (λSetupTiming1 n h=>?_)
 conv=>whnf
 refine ZxK ?_;refine Zsh h (λh=>?_) (λh=>?_)
 conv=>whnf
 refine ZxK ?_;refine Zsh h (λh=>?_) (λh=>?_)
 conv=>whnf
 refine Ziu h (λSetupSources0 p h=>?_)
 conv=>whnf
 refine Ziu h (λBreakLoops0 q h=>?_)
 conv=>whnf
 refine⟨by kernel_rfl,?_⟩
 conv=>whnf
 refine vAt h (λX b c x h=>?_)
 conv=>whnf
 obtain⟨PropagateTiming0,H,h⟩:=KH.1 h;apply ZCw
 focus
  intro t
  conv=>whnf
  refine⟨_,H,?_⟩
  conv=>whnf
  refine⟨trivial,?_⟩
  conv=>whnf
  exact t
 focus
  intro t
  conv=>whnf
  refine⟨_,H,?_⟩
  conv=>whnf
  refine⟨trivial,?_⟩
  conv=>whnf
  exact t
 conv=>whnf
 refine⟨by kernel_rfl,?_⟩
 conv=>whnf
 refine Zsh h (λh=>?_) (λh=>?_)
 conv=>whnf
 refine Ziu h (λw d h=>?_)
 conv=>whnf
 refine ZxI h (λh=>?_) (λh=>?_)
 conv=>whnf
 refine Ziu h (λNodeCount0 e h=>?_)
 conv=>whnf
 refine⟨trivial,?_⟩
 conv=>whnf
 cases h;exact k
 conv=>whnf
 refine⟨trivial,?_⟩
 conv=>whnf
 cases h;exact k
 conv=>whnf
 refine⟨trivial,?_⟩
 conv=>whnf
 cases h;exact k
 conv=>whnf
 cases h;exact k
 conv=>whnf
 cases h;exact k
end Go.Proofs.YtjkccpcebpeadaaGreatDoor
