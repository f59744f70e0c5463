/-
  The functions keep their contracts, if what they call does. Printed by program.
-/
import Derived.Test.YtjepimjoknccmaaGreatDoorM
import Derived.KernelRfl
namespace Go.Proofs.YtjepimjoknccmaaGreatDoor
open Go Go.Sx
set_option maxRecDepth 100000
set_option maxHeartbeats 100000000
set_option linter.unusedVariables false
set_option linter.unusedSimpArgs false
theorem w_laws_FnExactIncrementalTiming (q18:Sq 4 c18) (q21:Sq 5 c19) (q11:Sq 6 c20) (q7:Sq 7 c21) (q12:Sq 8 c24) (q19:Sq 10 c43) (q22:Sq 11 c44) (q13:Sq 12 c45) (q8:Sq 13 c48) (q14:Sq 14 c51) (q0:Sq 9 ZIm) (q1:Sq 15 ZJ0) (q15:Sq 16 ZJ3) (q16:Sq 17 ZDU) (q20:Sq 18 ZKk) (q23:Sq 19 ZKl) (q9:Sq 20 ZKn) (q10:Sq 21 ZKy) (q17:Sq 22 ZKA) (q2:Sq 23 ZKB) (q3:Sq 24 ZKE) (q4:Sq 25 ZDt) (q5:Sq 26 ZKH) (q6:Sq 27 ZKI):Sq 3 ZaU:=by
 refine G8 Zn (Zd q18 (Zd q21 (Zd q11 (Zd q7 (Zd q12 (Zd q19 (Zd q22 (Zd q13 (Zd q8 (Zd q14 (Zd q0 (Zd q1 (Zd q15 (Zd q16 (Zd q20 (Zd q23 (Zd q9 (Zd q10 (Zd q17 (Zd q2 (Zd q3 (Zd q4 (Zd q5 (Zd q6 Zi)))))))))))))))))))))))) {draws:=[(17,[],.can (.o [0,2,4,6,8] (.alt 1 (.alt 3 (.alt 5 (.alt 7 (.alt 9 (.alt 10 (.u 11 4 (.a [15,16] (.o [17,18] .done))) (.a [15,10] (.u 11 4 (.alt 16 (.o [17,18] .done) .done)))) (.a [15,9,10] (.u 11 4 (.alt 16 (.o [17,18] .done) .done)))) (.a [15,7,9,10] (.u 11 4 (.alt 16 (.o [17,18] .done) .done)))) (.a [15,5,7,9,10] (.u 11 4 (.alt 16 (.o [17,18] .done) .done)))) (.a [15,3,5,7,9,10] (.u 11 4 (.alt 16 (.o [17,18] .done) .done)))) (.a [15,1,3,5,7,9,10] (.u 11 4 (.alt 16 (.o [17,18] .done) .done)))))),(22,[],.can (.o [0,1,2,4,5] (.alt 3 (.alt 6 (.u 7 4 (.a [11,12] (.o [13,14] .done))) (.a [11,6] (.u 7 4 (.alt 12 (.o [13,14] .done) .done)))) (.a [11,3,6] (.u 7 4 (.alt 12 (.o [13,14] .done) .done)))))),(25,[],.o [0,1] (.a [2,3] (.op 4 .done))),(27,[],.o [0,1] (.a [2,3] (.op 4 .done))),(31,[],.o [0,1] (.a [2,3] (.op 4 .done))),(52,[],.can (.o [0,2,4,6,8] (.alt 1 (.alt 3 (.alt 5 (.alt 7 (.alt 9 (.alt 10 (.u 11 4 (.a [15,16] (.o [17,18] .done))) (.a [15,10] (.u 11 4 (.alt 16 (.o [17,18] .done) .done)))) (.a [15,9,10] (.u 11 4 (.alt 16 (.o [17,18] .done) .done)))) (.a [15,7,9,10] (.u 11 4 (.alt 16 (.o [17,18] .done) .done)))) (.a [15,5,7,9,10] (.u 11 4 (.alt 16 (.o [17,18] .done) .done)))) (.a [15,3,5,7,9,10] (.u 11 4 (.alt 16 (.o [17,18] .done) .done)))) (.a [15,1,3,5,7,9,10] (.u 11 4 (.alt 16 (.o [17,18] .done) .done))))))]} Tryz.func3 ?_;rintro ⟨a0,a1,a2,a3,a4,⟨⟩⟩ K ⟨r,h,hK⟩
 change Xz a0 a1 a2 a3 a4=some r at h
 unfold Xz at h
 conv=>whnf
 refine QL h (λ_ _ h=>?_)
 conv=>whnf
 refine Zlo h (λh=>?_) (λh=>?_)
 conv=>whnf
 cases h;exact hK
 conv=>whnf
 refine QL h (λ_ _ h=>?_)
 conv=>whnf
 refine Zlo h (λh=>?_) (λh=>?_)
 conv=>whnf
 cases h;exact hK
 conv=>whnf
 refine QL h (λ_ _ h=>?_)
 conv=>whnf
 refine Zlo h (λh=>?_) (λh=>?_)
 conv=>whnf
 cases h;exact hK
 conv=>whnf
 refine QL h (λ_ _ h=>?_)
 conv=>whnf
 refine Zlo h (λh=>?_) (λh=>?_)
 conv=>whnf
 cases h;exact hK
 conv=>whnf
 refine QL h (λ_ _ h=>?_)
 conv=>whnf
 refine Zlo h (λh=>?_) (λh=>?_)
 conv=>whnf
 cases h;exact hK
 conv=>whnf
 refine ⟨by kernel_rfl,?_⟩
 conv=>whnf
 obtain ⟨toBlock0,hb5,h⟩:=US.1 h;obtain ⟨toEdit0,hb9,h⟩:=US.1 h;obtain ⟨toCorner0,hb10,h⟩:=US.1 h;obtain ⟨toSourceS0,hb11,h⟩:=US.1 h;obtain ⟨toTiming0,hb12,h⟩:=US.1 h;obtain ⟨IncrementalTiming0,hb13,h⟩:=US.1 h;apply ZDB
 focus
  intro tS
  conv=>whnf
  refine ⟨_,hb5,?_⟩
  conv=>whnf
  intro fp41
  conv=>whnf
  intro fp42
  conv=>whnf
  intro fp43
  conv=>whnf
  refine ⟨?_,?_⟩;rotate_left
  focus
   iterate 6 ((conv=>whnf);first | refine ⟨trivial,?_⟩ | refine ⟨_,hb9,?_⟩ | refine ⟨_,hb10,?_⟩ | refine ⟨_,hb11,?_⟩ | refine ⟨_,hb12,?_⟩ | refine ⟨_,hb13,?_⟩)
   conv=>whnf
   exact tS fp41 fp42 fp43
  rotate_right
  focus
   conv=>whnf
   refine ⟨_,hb9,?_⟩
   conv=>whnf
   refine ⟨?_,?_⟩;rotate_left
   focus
    iterate 5 ((conv=>whnf);first | refine ⟨trivial,?_⟩ | refine ⟨_,hb10,?_⟩ | refine ⟨_,hb11,?_⟩ | refine ⟨_,hb12,?_⟩ | refine ⟨_,hb13,?_⟩)
    conv=>whnf
    exact tS fp41 fp42 fp43
   rotate_right
   focus
    conv=>whnf
    refine ⟨_,hb10,?_⟩
    conv=>whnf
    refine ⟨?_,?_⟩;rotate_left
    focus
     iterate 4 ((conv=>whnf);first | refine ⟨trivial,?_⟩ | refine ⟨_,hb11,?_⟩ | refine ⟨_,hb12,?_⟩ | refine ⟨_,hb13,?_⟩)
     conv=>whnf
     exact tS fp41 fp42 fp43
    rotate_right
    focus
     conv=>whnf
     refine ⟨_,hb11,?_⟩
     conv=>whnf
     refine ⟨?_,?_⟩;rotate_left
     focus
      iterate 3 ((conv=>whnf);first | refine ⟨trivial,?_⟩ | refine ⟨_,hb12,?_⟩ | refine ⟨_,hb13,?_⟩)
      conv=>whnf
      exact tS fp41 fp42 fp43
     rotate_right
     focus
      conv=>whnf
      refine ⟨_,hb12,?_⟩
      conv=>whnf
      refine ⟨?_,?_⟩;rotate_left
      focus
       iterate 2 ((conv=>whnf);first | refine ⟨trivial,?_⟩ | refine ⟨_,hb13,?_⟩)
       conv=>whnf
       exact tS fp41 fp42 fp43
      rotate_right
      focus
       iterate 2 ((conv=>whnf);first | refine ⟨trivial,?_⟩ | refine ⟨_,hb13,?_⟩)
       conv=>whnf
       exact tS fp41 fp42 fp43
 focus
  intro tS
  conv=>whnf
  refine ⟨_,hb5,?_⟩
  conv=>whnf
  intro fp41
  conv=>whnf
  intro fp42
  conv=>whnf
  intro fp43
  iterate 6 ((conv=>whnf);first | refine ⟨trivial,?_⟩ | refine ⟨_,hb9,?_⟩ | refine ⟨_,hb10,?_⟩ | refine ⟨_,hb11,?_⟩ | refine ⟨_,hb12,?_⟩ | refine ⟨_,hb13,?_⟩)
  conv=>whnf
  exact tS fp41 fp42 fp43
 intro _ fp7 fp8
 iterate 8 ((conv=>whnf);first | intro _ | refine ⟨_,hb5,?_⟩ | refine ⟨_,hb9,?_⟩ | refine ⟨_,hb11,?_⟩ | refine ⟨_,hb12,?_⟩ | refine ⟨by kernel_rfl,?_⟩)
 conv=>whnf
 obtain ⟨IncrementalTiming1,hb17,h⟩:=US.1 h;apply ZGF
 focus
  intro tS
  conv=>whnf
  refine ⟨_,hb10,?_⟩
  conv=>whnf
  refine ⟨?_,?_⟩;rotate_left
  focus
   iterate 2 ((conv=>whnf);first | refine ⟨trivial,?_⟩ | refine ⟨_,hb17,?_⟩)
   conv=>whnf
   exact tS
  rotate_right
  focus
   iterate 2 ((conv=>whnf);first | refine ⟨trivial,?_⟩ | refine ⟨_,hb17,?_⟩)
   conv=>whnf
   exact tS
 focus
  intro tS
  iterate 3 ((conv=>whnf);first | refine ⟨trivial,?_⟩ | refine ⟨_,hb10,?_⟩ | refine ⟨_,hb17,?_⟩)
  conv=>whnf
  exact tS
 conv=>whnf
 refine QL h (λ_ hb18 h=>?_)
 conv=>whnf
 refine ZBD ?_;refine Zwo h (λh=>?_) (λh=>?_)
 conv=>whnf
 refine QL h (λ_ hb19 h=>?_)
 conv=>whnf
 refine ZBD ?_;refine Zwo h (λh=>?_) (λh=>?_)
 conv=>whnf
 refine ZqW ?_;refine Zlo h (λh=>?_) (λh=>?_)
 conv=>whnf
 refine ⟨by kernel_rfl,?_⟩
 iterate 4 ((conv=>whnf);first | intro _ | refine ⟨_,hb5,?_⟩)
 conv=>whnf
 refine QL h (λ_ _ h=>?_)
 conv=>whnf
 refine ⟨trivial,?_⟩
 conv=>whnf
 refine ZqW ?_;refine Zwo h (λh=>?_) (λh=>?_)
 conv=>whnf
 refine ⟨by kernel_rfl,?_⟩
 conv=>whnf
 refine ⟨_,hb9,?_⟩
 conv=>whnf
 refine QL h (λ_ _ h=>?_)
 conv=>whnf
 refine ⟨trivial,?_⟩
 conv=>whnf
 refine ZqW ?_;refine Zwo h (λh=>?_) (λh=>?_)
 conv=>whnf
 refine ⟨_,hb11,?_⟩
 conv=>whnf
 refine QL h (λ_ _ h=>?_)
 conv=>whnf
 refine ZqW ?_;refine Zwo h (λh=>?_) (λh=>?_)
 conv=>whnf
 refine ⟨by kernel_rfl,?_⟩
 conv=>whnf
 refine ⟨_,hb12,?_⟩
 conv=>whnf
 refine QL h (λ_ _ h=>?_)
 conv=>whnf
 refine ⟨trivial,?_⟩
 conv=>whnf
 refine ZqW ?_;refine Zwo h (λh=>?_) (λh=>?_)
 conv=>whnf
 refine QL h (λ_ _ h=>?_)
 iterate 3 ((conv=>whnf);intro _)
 conv=>whnf
 refine QL h (λ_ _ h=>?_)
 conv=>whnf
 refine QL h (λ_ _ h=>?_)
 conv=>whnf
 refine QL h (λ_ _ h=>?_)
 conv=>whnf
 refine ZDg h (λh=>?_) (λh=>?_)
 conv=>whnf
 cases h;exact hK
 conv=>whnf
 refine ⟨_,hb18,?_⟩
 conv=>whnf
 refine ZBD ?_;refine Zwo h (λh=>?_) (λh=>?_)
 conv=>whnf
 refine ⟨_,hb19,?_⟩
 conv=>whnf
 refine ZBD ?_;refine Zwo h (λh=>?_) (λh=>?_)
 conv=>whnf
 refine ZqW ?_;refine Zlo h (λh=>?_) (λh=>?_)
 conv=>whnf
 refine QL h (λ_ _ h=>?_)
 conv=>whnf
 refine QL h (λ_ _ h=>?_)
 conv=>whnf
 refine QL h (λ_ hb36 h=>?_)
 conv=>whnf
 refine Zlo h (λh=>?_) (λh=>?_)
 conv=>whnf
 cases h;exact hK
 conv=>whnf
 refine QL h (λ_ hb37 h=>?_)
 conv=>whnf
 refine Zlo h (λh=>?_) (λh=>?_)
 conv=>whnf
 cases h;exact hK
 conv=>whnf
 refine ZqW ?_;refine Zlo h (λh=>?_) (λh=>?_)
 conv=>whnf
 refine ⟨by kernel_rfl,?_⟩
 conv=>whnf
 apply ZDB
 focus
  intro tS
  conv=>whnf
  refine ⟨_,hb5,?_⟩
  conv=>whnf
  intro fp38
  conv=>whnf
  intro fp39
  conv=>whnf
  intro fp40
  conv=>whnf
  refine ⟨?_,?_⟩;rotate_left
  focus
   iterate 6 ((conv=>whnf);first | refine ⟨trivial,?_⟩ | refine ⟨_,hb9,?_⟩ | refine ⟨_,hb10,?_⟩ | refine ⟨_,hb11,?_⟩ | refine ⟨_,hb12,?_⟩ | refine ⟨_,hb17,?_⟩)
   conv=>whnf
   exact tS fp38 fp39 fp40
  rotate_right
  focus
   conv=>whnf
   refine ⟨_,hb9,?_⟩
   conv=>whnf
   refine ⟨?_,?_⟩;rotate_left
   focus
    iterate 5 ((conv=>whnf);first | refine ⟨trivial,?_⟩ | refine ⟨_,hb10,?_⟩ | refine ⟨_,hb11,?_⟩ | refine ⟨_,hb12,?_⟩ | refine ⟨_,hb17,?_⟩)
    conv=>whnf
    exact tS fp38 fp39 fp40
   rotate_right
   focus
    conv=>whnf
    refine ⟨_,hb10,?_⟩
    conv=>whnf
    refine ⟨?_,?_⟩;rotate_left
    focus
     iterate 4 ((conv=>whnf);first | refine ⟨trivial,?_⟩ | refine ⟨_,hb11,?_⟩ | refine ⟨_,hb12,?_⟩ | refine ⟨_,hb17,?_⟩)
     conv=>whnf
     exact tS fp38 fp39 fp40
    rotate_right
    focus
     conv=>whnf
     refine ⟨_,hb11,?_⟩
     conv=>whnf
     refine ⟨?_,?_⟩;rotate_left
     focus
      iterate 3 ((conv=>whnf);first | refine ⟨trivial,?_⟩ | refine ⟨_,hb12,?_⟩ | refine ⟨_,hb17,?_⟩)
      conv=>whnf
      exact tS fp38 fp39 fp40
     rotate_right
     focus
      conv=>whnf
      refine ⟨_,hb12,?_⟩
      conv=>whnf
      refine ⟨?_,?_⟩;rotate_left
      focus
       iterate 2 ((conv=>whnf);first | refine ⟨trivial,?_⟩ | refine ⟨_,hb17,?_⟩)
       conv=>whnf
       exact tS fp38 fp39 fp40
      rotate_right
      focus
       iterate 2 ((conv=>whnf);first | refine ⟨trivial,?_⟩ | refine ⟨_,hb17,?_⟩)
       conv=>whnf
       exact tS fp38 fp39 fp40
 focus
  intro tS
  conv=>whnf
  refine ⟨_,hb5,?_⟩
  conv=>whnf
  intro fp38
  conv=>whnf
  intro fp39
  conv=>whnf
  intro fp40
  iterate 6 ((conv=>whnf);first | refine ⟨trivial,?_⟩ | refine ⟨_,hb9,?_⟩ | refine ⟨_,hb10,?_⟩ | refine ⟨_,hb11,?_⟩ | refine ⟨_,hb12,?_⟩ | refine ⟨_,hb17,?_⟩)
  conv=>whnf
  exact tS fp38 fp39 fp40
 intro fp38 fp39 fp40
 conv=>whnf
 refine ⟨_,hb18,?_⟩
 conv=>whnf
 refine ZBD ?_;refine Zwo h (λh=>?_) (λh=>?_)
 conv=>whnf
 refine ⟨_,hb19,?_⟩
 conv=>whnf
 refine ZBD ?_;refine Zwo h (λh=>?_) (λh=>?_)
 conv=>whnf
 refine ZqW ?_;refine Zlo h (λh=>?_) (λh=>?_)
 conv=>whnf
 refine ⟨_,hb36,?_⟩
 conv=>whnf
 refine Zlo h (λh=>?_) (λh=>?_)
 conv=>whnf
 cases h;exact hK
 conv=>whnf
 refine ⟨_,hb37,?_⟩
 conv=>whnf
 refine Zlo h (λh=>?_) (λh=>?_)
 conv=>whnf
 cases h;exact hK
 conv=>whnf
 refine ZqW ?_;refine Zlo h (λh=>?_) (λh=>?_)
 conv=>whnf
 cases h;exact hK
 conv=>whnf
 cases h;exact hK
 conv=>whnf
 cases h;exact hK
 conv=>whnf
 cases h;exact hK
 conv=>whnf
 cases h;exact hK
 conv=>whnf
 cases h;exact hK
 conv=>whnf
 cases h;exact hK
 conv=>whnf
 cases h;exact hK
 conv=>whnf
 cases h;exact hK
 conv=>whnf
 cases h;exact hK
 conv=>whnf
 cases h;exact hK
 conv=>whnf
 cases h;exact hK
 conv=>whnf
 cases h;exact hK
 conv=>whnf
 cases h;exact hK
 conv=>whnf
 cases h;exact hK
 conv=>whnf
 cases h;exact hK
end Go.Proofs.YtjepimjoknccmaaGreatDoor
