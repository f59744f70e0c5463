/-
  The functions keep their contracts, if what they call does. Printed by program.
-/
import Derived.Test.YtpkjbcbepmpddaaGreatDoorM
import Derived.KernelRfl
namespace Go.Proofs.YtpkjbcbepmpddaaGreatDoor
open Go Go.Sx
set_option maxRecDepth 100000
set_option maxHeartbeats 100000000
set_option linter.unusedVariables false
set_option linter.unusedSimpArgs false
theorem w_laws_FnExactSetupTiming (q7:Sq 4 c18) (q8:Sq 5 c26) (q9:Sq 7 c45) (q10:Sq 8 c55) (q0:Sq 6 ZH9) (q1:Sq 9 ZJq) (q6:Sq 10 ZJt) (q11:Sq 11 ZJL) (q12:Sq 12 ZJU) (q4:Sq 13 ZJ5) (q5:Sq 14 ZKa) (q2:Sq 15 ZKd) (q3:Sq 16 ZKg):Sq 3 Zdt:=by
 refine Ze Zq (Zb q7 (Zb q8 (Zb q9 (Zb q10 (Zb q0 (Zb q1 (Zb q6 (Zb q11 (Zb q12 (Zb q4 (Zb q5 (Zb q2 (Zb q3 Zi))))))))))))) mixed {draws:=[(8,[],.can (.o [0,2,4] (.alt 1 (.alt 3 (.alt 5 (.o [6,7,8] (.a [9,10] (.op 11 .done))) (.a [9,5] (.o [6,7,8] (.alt 10 (.op 11 .done) .done)))) (.a [9,3,5] (.o [6,7,8] (.alt 10 (.op 11 .done) .done)))) (.a [9,1,3,5] (.o [6,7,8] (.alt 10 (.op 11 .done) .done)))))),(14,[],.o [0,1] (.a [2,3] (.op 4 .done))),(16,[],.o [0,1] (.a [2,3] (.op 4 .done))),(31,[],.can (.o [0,2,4] (.alt 1 (.alt 3 (.alt 5 (.o [6,7,8] (.a [9,10] (.op 11 .done))) (.a [9,5] (.o [6,7,8] (.alt 10 (.op 11 .done) .done)))) (.a [9,3,5] (.o [6,7,8] (.alt 10 (.op 11 .done) .done)))) (.a [9,1,3,5] (.o [6,7,8] (.alt 10 (.op 11 .done) .done))))))]} (fn:=Tryz.f3) Tryz.func3 (by kernel_rfl) (by kernel_rfl) ?_;rintro ⟨a0,a1,a2,⟨⟩⟩ K ⟨r,h,hK⟩
 change Va a0 a1 a2=some r at h
 unfold Va at h
 conv=>whnf
 refine Zj5 h (λszBlock0 hb0 h=>?_)
 conv=>whnf
 refine ZtH h (λh=>?_) (λh=>?_)
 conv=>whnf
 cases h;exact hK
 conv=>whnf
 refine Zj5 h (λszSetup0 hb1 h=>?_)
 conv=>whnf
 refine ZtH h (λh=>?_) (λh=>?_)
 conv=>whnf
 cases h;exact hK
 conv=>whnf
 refine ⟨by kernel_rfl,?_⟩
 conv=>whnf
 obtain ⟨toBlock0,hb2,h⟩:=Option.bind_eq_some_iff.1 h;obtain ⟨toSetup0,hb6,h⟩:=Option.bind_eq_some_iff.1 h;obtain ⟨SetupTiming0,hb8,h⟩:=Option.bind_eq_some_iff.1 h;apply ZDl
 focus
  intro tS
  conv=>whnf
  refine ⟨_,hb2,?_⟩
  conv=>whnf
  intro fp34
  conv=>whnf
  intro fp35
  conv=>whnf
  intro fp36
  conv=>whnf
  refine ⟨?_,?_⟩;rotate_left
  focus
   conv=>whnf
   refine ⟨_,hb6,?_⟩
   conv=>whnf
   intro fp37
   conv=>whnf
   refine ⟨_,hb8,?_⟩
   conv=>whnf
   refine ⟨trivial,?_⟩
   conv=>whnf
   exact tS fp34 fp35 fp36 fp37
  rotate_right
  focus
   conv=>whnf
   refine ⟨_,hb6,?_⟩
   conv=>whnf
   intro fp37
   conv=>whnf
   refine ⟨?_,?_⟩;rotate_left
   focus
    conv=>whnf
    refine ⟨_,hb8,?_⟩
    conv=>whnf
    refine ⟨trivial,?_⟩
    conv=>whnf
    exact tS fp34 fp35 fp36 fp37
   rotate_right
   focus
    conv=>whnf
    refine ⟨_,hb8,?_⟩
    conv=>whnf
    refine ⟨trivial,?_⟩
    conv=>whnf
    exact tS fp34 fp35 fp36 fp37
 focus
  intro tS
  conv=>whnf
  refine ⟨_,hb2,?_⟩
  conv=>whnf
  intro fp34
  conv=>whnf
  intro fp35
  conv=>whnf
  intro fp36
  conv=>whnf
  refine ⟨_,hb6,?_⟩
  conv=>whnf
  intro fp37
  conv=>whnf
  refine ⟨_,hb8,?_⟩
  conv=>whnf
  refine ⟨trivial,?_⟩
  conv=>whnf
  exact tS fp34 fp35 fp36 fp37
 intro fp3 fp4 fp5 fp7
 conv=>whnf
 refine ⟨_,hb2,?_⟩
 conv=>whnf
 intro fp9
 conv=>whnf
 intro fp10
 conv=>whnf
 intro fp11
 conv=>whnf
 refine ⟨_,hb6,?_⟩
 conv=>whnf
 intro fp12
 conv=>whnf
 refine Zj5 h (λSetupTiming1 hb13 h=>?_)
 conv=>whnf
 refine Zj5 h (λeqTiming0 hb14 h=>?_)
 conv=>whnf
 refine ZDr ?_;refine Zyt h (λh=>?_) (λh=>?_)
 conv=>whnf
 refine Zs6 ?_;refine ZtH h (λh=>?_) (λh=>?_)
 conv=>whnf
 refine ⟨by kernel_rfl,?_⟩
 conv=>whnf
 refine ⟨_,hb2,?_⟩
 conv=>whnf
 intro fp15
 conv=>whnf
 intro fp16
 conv=>whnf
 intro fp17
 conv=>whnf
 refine Zj5 h (λeqBlock0 hb18 h=>?_)
 conv=>whnf
 refine ⟨trivial,?_⟩
 conv=>whnf
 refine Zs6 ?_;refine Zyt h (λh=>?_) (λh=>?_)
 conv=>whnf
 refine ⟨by kernel_rfl,?_⟩
 conv=>whnf
 refine ⟨_,hb6,?_⟩
 conv=>whnf
 intro fp19
 conv=>whnf
 refine Zj5 h (λeqSetup0 hb20 h=>?_)
 conv=>whnf
 refine ⟨trivial,?_⟩
 conv=>whnf
 refine Zs6 ?_;refine Zyt h (λh=>?_) (λh=>?_)
 conv=>whnf
 refine Zj5 h (λmarkBlock0 hb21 h=>?_)
 conv=>whnf
 intro fp22
 conv=>whnf
 intro fp23
 conv=>whnf
 intro fp24
 conv=>whnf
 refine Zj5 h (λmarkSetup0 hb25 h=>?_)
 conv=>whnf
 intro fp26
 conv=>whnf
 refine ZCX h (λh=>?_) (λh=>?_)
 conv=>whnf
 cases h;exact hK
 conv=>whnf
 refine ⟨_,hb14,?_⟩
 conv=>whnf
 refine ZDr ?_;refine Zyt h (λh=>?_) (λh=>?_)
 conv=>whnf
 refine Zs6 ?_;refine ZtH h (λh=>?_) (λh=>?_)
 conv=>whnf
 refine Zj5 h (λmarkTiming0 hb27 h=>?_)
 conv=>whnf
 refine Zj5 h (λheldTiming0 hb28 h=>?_)
 conv=>whnf
 refine ZtH h (λh=>?_) (λh=>?_)
 conv=>whnf
 cases h;exact hK
 conv=>whnf
 refine Zs6 ?_;refine ZtH h (λh=>?_) (λh=>?_)
 conv=>whnf
 refine ⟨by kernel_rfl,?_⟩
 conv=>whnf
 apply ZDl
 focus
  intro tS
  conv=>whnf
  refine ⟨_,hb2,?_⟩
  conv=>whnf
  intro fp29
  conv=>whnf
  intro fp30
  conv=>whnf
  intro fp31
  conv=>whnf
  refine ⟨?_,?_⟩;rotate_left
  focus
   conv=>whnf
   refine ⟨_,hb6,?_⟩
   conv=>whnf
   intro fp32
   conv=>whnf
   refine ⟨_,hb13,?_⟩
   conv=>whnf
   refine ⟨trivial,?_⟩
   conv=>whnf
   exact tS fp29 fp30 fp31 fp32
  rotate_right
  focus
   conv=>whnf
   refine ⟨_,hb6,?_⟩
   conv=>whnf
   intro fp32
   conv=>whnf
   refine ⟨?_,?_⟩;rotate_left
   focus
    conv=>whnf
    refine ⟨_,hb13,?_⟩
    conv=>whnf
    refine ⟨trivial,?_⟩
    conv=>whnf
    exact tS fp29 fp30 fp31 fp32
   rotate_right
   focus
    conv=>whnf
    refine ⟨_,hb13,?_⟩
    conv=>whnf
    refine ⟨trivial,?_⟩
    conv=>whnf
    exact tS fp29 fp30 fp31 fp32
 focus
  intro tS
  conv=>whnf
  refine ⟨_,hb2,?_⟩
  conv=>whnf
  intro fp29
  conv=>whnf
  intro fp30
  conv=>whnf
  intro fp31
  conv=>whnf
  refine ⟨_,hb6,?_⟩
  conv=>whnf
  intro fp32
  conv=>whnf
  refine ⟨_,hb13,?_⟩
  conv=>whnf
  refine ⟨trivial,?_⟩
  conv=>whnf
  exact tS fp29 fp30 fp31 fp32
 intro fp29 fp30 fp31 fp32
 conv=>whnf
 refine ⟨_,hb14,?_⟩
 conv=>whnf
 refine ZDr ?_;refine Zyt h (λh=>?_) (λh=>?_)
 conv=>whnf
 refine Zs6 ?_;refine ZtH h (λh=>?_) (λh=>?_)
 conv=>whnf
 refine ⟨_,hb28,?_⟩
 conv=>whnf
 refine ZtH h (λh=>?_) (λh=>?_)
 conv=>whnf
 cases h;exact hK
 conv=>whnf
 refine Zs6 ?_;refine ZtH h (λh=>?_) (λh=>?_)
 conv=>whnf
 cases h;exact hK
 conv=>whnf
 cases h;exact hK
 conv=>whnf
 cases h;exact hK
 conv=>whnf
 cases h;exact hK
 conv=>whnf
 cases h;exact hK
 conv=>whnf
 cases h;exact hK
 conv=>whnf
 cases h;exact hK
 conv=>whnf
 cases h;exact hK
 conv=>whnf
 cases h;exact hK
 conv=>whnf
 cases h;exact hK
 conv=>whnf
 cases h;exact hK
end Go.Proofs.YtpkjbcbepmpddaaGreatDoor
