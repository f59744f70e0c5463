/-
  The functions keep their contracts, if what they call does. Printed by program.
-/
import Derived.Test.YtnnbgbgapogckaaGreatDoorM
import Derived.KernelRfl
namespace Go.Proofs.YtnnbgbgapogckaaGreatDoor
open Go Go.Sx
set_option maxRecDepth 100000
set_option maxHeartbeats 6400000
set_option linter.unusedVariables false
set_option linter.unusedSimpArgs false
theorem w_laws_FnEditList (q7:Sq 9 c0) (q0:Sq 33 c65) (q2:Sq 34 ZBn) (q1:Sq 35 c162) (q3:Sq 36 ZBo) (q6:Sq 17 c164) (q4:Sq 18 ZAN) (q5:Sq 32 ZDR):Sq 7 ZCH:=by
 refine Zm ZL (Zg q7 (Zg q0 (Zg q2 (Zg q1 (Zg q3 (Zg q6 (Zg q4 (Zg q5 Zu)))))))) mixed {draws:=[(12,[0,0,0,6,15,31,63,63,63,0,639,1791,4095],.can (.op 0 (.op 1 (.op 2 (.alt 3 (.alt 4 (.op 5 (.op 6 (.op 7 (.op 8 (.alt 9 (.alt 10 (.op 11 (.op 12 (.done))) (.done)) (.done)))))) (.alt 9 (.alt 4 (.op 5 (.op 6 (.op 7 (.op 8 (.alt 10 (.op 11 (.op 12 (.done))) (.done)))))) (.done)) (.done))) (.alt 9 (.alt 3 (.alt 4 (.op 5 (.op 6 (.op 7 (.op 8 (.alt 10 (.op 11 (.op 12 (.done))) (.done)))))) (.done)) (.done)) (.done))))))),(13,[0,0,0,6,15,31,63,63,63,0,639,1791,4095],.can (.op 0 (.op 1 (.op 2 (.alt 3 (.alt 4 (.op 5 (.op 6 (.op 7 (.op 8 (.alt 9 (.alt 10 (.op 11 (.op 12 (.done))) (.done)) (.done)))))) (.alt 9 (.alt 4 (.op 5 (.op 6 (.op 7 (.op 8 (.alt 10 (.op 11 (.op 12 (.done))) (.done)))))) (.done)) (.done))) (.alt 9 (.alt 3 (.alt 4 (.op 5 (.op 6 (.op 7 (.op 8 (.alt 10 (.op 11 (.op 12 (.done))) (.done)))))) (.done)) (.done)) (.done)))))))]} (fn:=Tryz.f7) Tryz.func7 (by kernel_rfl) (by kernel_rfl) ?_
 rintro ⟨a0,⟨⟩⟩ K ⟨r,h,hK⟩
 change ZCD a0=some r at h
 unfold ZCD at h
 conv=>whnf
 refine Ze h (fun big0 hb0 h=>?_)
 conv=>whnf
 refine Qn h (fun h=>?_) (fun h=>?_)
 conv=>whnf
 cases h
 exact hK
 conv=>whnf
 refine Ze h (fun DrawApplyEdits0 hb1 h=>?_)
 conv=>whnf
 refine Ze h (fun ApplyEdits0 hb2 h=>?_)
 conv=>whnf
 intro fp3
 conv=>whnf
 intro fp4
 conv=>whnf
 intro fp5
 conv=>whnf
 refine Ze h (fun InverseEdits0 hb6 h=>?_)
 conv=>whnf
 intro fp7
 conv=>whnf
 refine Ze h (fun ApplyEdits1 hb8 h=>?_)
 conv=>whnf
 intro fp9
 conv=>whnf
 intro fp10
 conv=>whnf
 intro fp11
 conv=>whnf
 refine Zj4 ?_
 refine ZG h (fun h=>?_) (fun h=>?_)
 conv=>whnf
 refine Zj4 ?_
 refine ZG h (fun h=>?_) (fun h=>?_)
 conv=>whnf
 refine Yc ?_
 refine ZG h (fun h=>?_) (fun h=>?_)
 conv=>whnf
 refine Yc ?_
 refine ZG h (fun h=>?_) (fun h=>?_)
 conv=>whnf
 refine Ze h (fun roll0 hb12 h=>?_)
 conv=>whnf
 refine Ze h (fun below0 hb13 h=>?_)
 conv=>whnf
 refine ⟨by kernel_rfl,?_⟩
 conv=>whnf
 obtain ⟨hp14,h⟩:=guardE h
 obtain ⟨hp15,h⟩:=guardE h
 obtain ⟨ApplyEdits2,hb16,h⟩:=Option.bind_eq_some_iff.1 h
 apply Zow
 focus
  intro tS
  conv=>whnf
  refine ⟨by decide,?_⟩
  conv=>whnf
  refine ⟨hp14,?_⟩
  conv=>whnf
  refine ⟨hp15,?_⟩
  conv=>whnf
  refine ⟨?_,?_⟩
  rotate_left
  focus
   conv=>whnf
   refine ⟨_,hb16,?_⟩
   conv=>whnf
   intro fp40
   conv=>whnf
   intro fp41
   conv=>whnf
   intro fp42
   conv=>whnf
   refine ⟨trivial,?_⟩
   conv=>whnf
   exact tS fp40 fp41 fp42
  rotate_right
  focus
   conv=>whnf
   refine ⟨_,hb16,?_⟩
   conv=>whnf
   intro fp40
   conv=>whnf
   intro fp41
   conv=>whnf
   intro fp42
   conv=>whnf
   refine ⟨trivial,?_⟩
   conv=>whnf
   exact tS fp40 fp41 fp42
 focus
  intro tS
  conv=>whnf
  refine ⟨by decide,?_⟩
  conv=>whnf
  refine ⟨hp14,?_⟩
  conv=>whnf
  refine ⟨hp15,?_⟩
  conv=>whnf
  refine ⟨_,hb16,?_⟩
  conv=>whnf
  intro fp40
  conv=>whnf
  intro fp41
  conv=>whnf
  intro fp42
  conv=>whnf
  refine ⟨trivial,?_⟩
  conv=>whnf
  exact tS fp40 fp41 fp42
 intro fp17 fp18 fp19
 conv=>whnf
 refine ⟨by kernel_rfl,?_⟩
 conv=>whnf
 obtain ⟨hp20,h⟩:=guardE h
 obtain ⟨ApplyEdits3,hb21,h⟩:=Option.bind_eq_some_iff.1 h
 apply Zow
 focus
  intro tS
  conv=>whnf
  refine ⟨hp14,?_⟩
  conv=>whnf
  refine ⟨hp15,?_⟩
  conv=>whnf
  refine ⟨hp20,?_⟩
  conv=>whnf
  refine ⟨?_,?_⟩
  rotate_left
  focus
   conv=>whnf
   refine ⟨_,hb21,?_⟩
   conv=>whnf
   intro fp34
   conv=>whnf
   intro fp35
   conv=>whnf
   intro fp36
   conv=>whnf
   refine ⟨trivial,?_⟩
   conv=>whnf
   exact tS fp34 fp35 fp36
  rotate_right
  focus
   conv=>whnf
   refine ⟨_,hb21,?_⟩
   conv=>whnf
   intro fp34
   conv=>whnf
   intro fp35
   conv=>whnf
   intro fp36
   conv=>whnf
   refine ⟨trivial,?_⟩
   conv=>whnf
   exact tS fp34 fp35 fp36
 focus
  intro tS
  conv=>whnf
  refine ⟨hp14,?_⟩
  conv=>whnf
  refine ⟨hp15,?_⟩
  conv=>whnf
  refine ⟨hp20,?_⟩
  conv=>whnf
  refine ⟨_,hb21,?_⟩
  conv=>whnf
  intro fp34
  conv=>whnf
  intro fp35
  conv=>whnf
  intro fp36
  conv=>whnf
  refine ⟨trivial,?_⟩
  conv=>whnf
  exact tS fp34 fp35 fp36
 intro fp22 fp23 fp24
 conv=>whnf
 refine Ze h (fun ApplyEdits4 hb25 h=>?_)
 conv=>whnf
 intro fp26
 conv=>whnf
 intro fp27
 conv=>whnf
 intro fp28
 conv=>whnf
 refine ZG h (fun h=>?_) (fun h=>?_)
 conv=>whnf
 refine ZG h (fun h=>?_) (fun h=>?_)
 conv=>whnf
 refine ZG h (fun h=>?_) (fun h=>?_)
 conv=>whnf
 refine Ze h (fun w5Block0 hb29 h=>?_)
 conv=>whnf
 refine Qn h (fun h=>?_) (fun h=>?_)
 conv=>whnf
 refine Ze h (fun w5Block1 hb30 h=>?_)
 conv=>whnf
 refine Qn h (fun h=>?_) (fun h=>?_)
 conv=>whnf
 cases h
 exact hK
 conv=>whnf
 cases h
 exact hK
 conv=>whnf
 cases h
 exact hK
 conv=>whnf
 cases h
 exact hK
 conv=>whnf
 cases h
 exact hK
 conv=>whnf
 cases h
 exact hK
 conv=>whnf
 refine ZG h (fun h=>?_) (fun h=>?_)
 conv=>whnf
 cases h
 exact hK
 conv=>whnf
 cases h
 exact hK
 conv=>whnf
 cases h
 exact hK
 conv=>whnf
 cases h
 exact hK
 conv=>whnf
 cases h
 exact hK
end Go.Proofs.YtnnbgbgapogckaaGreatDoor
