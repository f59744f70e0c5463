/-
  The functions keep their contracts, if what they call does. Printed by program.
-/
import Derived.Test.YtclfgjepbamnlaaGreatDoorM
import Derived.KernelRfl
namespace Go.Proofs.YtclfgjepbamnlaaGreatDoor
open Go Go.Sx
set_option maxRecDepth 100000
set_option maxHeartbeats 6400000
set_option linter.unusedVariables false
set_option linter.unusedSimpArgs false
theorem w_laws_FnExactUpdateTiming (q18:Sq 6 c18) (q11:Sq 7 c19) (q7:Sq 8 c20) (q12:Sq 9 c23) (q19:Sq 11 c42) (q13:Sq 12 c43) (q14:Sq 13 c26) (q8:Sq 14 c46) (q15:Sq 15 c49) (q0:Sq 26 Zyd) (q1:Sq 27 c234) (q16:Sq 20 ZzR) (q17:Sq 17 ZzS) (q20:Sq 18 Zz7) (q9:Sq 19 Zz9) (q10:Sq 21 ZGo) (q3:Sq 22 ZAc) (q2:Sq 23 ZGp) (q4:Sq 24 ZGs) (q5:Sq 28 ZGv) (q6:Sq 25 ZGw):Sq 4 ZEr:=by
 refine Ze Zl (Zb q18 (Zb q11 (Zb q7 (Zb q12 (Zb q19 (Zb q13 (Zb q14 (Zb q8 (Zb q15 (Zb q0 (Zb q1 (Zb q16 (Zb q17 (Zb q20 (Zb q9 (Zb q10 (Zb q3 (Zb q2 (Zb q4 (Zb q5 (Zb q6 Zf))))))))))))))))))))) mixed {draws:=[(18,[0,1,0,7,0,31,0,127,0,511,0,2047,4095,8191,16383,16383,16383,0,163839,458751,1048575],.can (.op 0 (.op 2 (.op 4 (.op 6 (.op 8 (.op 10 (.alt 1 (.alt 3 (.alt 5 (.alt 7 (.alt 9 (.alt 11 (.alt 12 (.op 13 (.op 14 (.op 15 (.op 16 (.alt 17 (.alt 18 (.op 19 (.op 20 (.done))) (.done)) (.done)))))) (.alt 17 (.alt 12 (.op 13 (.op 14 (.op 15 (.op 16 (.alt 18 (.op 19 (.op 20 (.done))) (.done)))))) (.done)) (.done))) (.alt 17 (.alt 11 (.alt 12 (.op 13 (.op 14 (.op 15 (.op 16 (.alt 18 (.op 19 (.op 20 (.done))) (.done)))))) (.done)) (.done)) (.done))) (.alt 17 (.alt 9 (.alt 11 (.alt 12 (.op 13 (.op 14 (.op 15 (.op 16 (.alt 18 (.op 19 (.op 20 (.done))) (.done)))))) (.done)) (.done)) (.done)) (.done))) (.alt 17 (.alt 7 (.alt 9 (.alt 11 (.alt 12 (.op 13 (.op 14 (.op 15 (.op 16 (.alt 18 (.op 19 (.op 20 (.done))) (.done)))))) (.done)) (.done)) (.done)) (.done)) (.done))) (.alt 17 (.alt 5 (.alt 7 (.alt 9 (.alt 11 (.alt 12 (.op 13 (.op 14 (.op 15 (.op 16 (.alt 18 (.op 19 (.op 20 (.done))) (.done)))))) (.done)) (.done)) (.done)) (.done)) (.done)) (.done))) (.alt 17 (.alt 3 (.alt 5 (.alt 7 (.alt 9 (.alt 11 (.alt 12 (.op 13 (.op 14 (.op 15 (.op 16 (.alt 18 (.op 19 (.op 20 (.done))) (.done)))))) (.done)) (.done)) (.done)) (.done)) (.done)) (.done)) (.done))) (.alt 17 (.alt 1 (.alt 3 (.alt 5 (.alt 7 (.alt 9 (.alt 11 (.alt 12 (.op 13 (.op 14 (.op 15 (.op 16 (.alt 18 (.op 19 (.op 20 (.done))) (.done)))))) (.done)) (.done)) (.done)) (.done)) (.done)) (.done)) (.done)) (.done)))))))))),(24,[0,0,2,0,0,0,0,127,255,511,511,511,0,5119,14335,32767],.can (.op 0 (.op 1 (.op 3 (.op 4 (.op 5 (.op 6 (.alt 2 (.alt 7 (.op 8 (.op 9 (.op 10 (.op 11 (.alt 12 (.alt 13 (.op 14 (.op 15 (.done))) (.done)) (.done)))))) (.alt 12 (.alt 7 (.op 8 (.op 9 (.op 10 (.op 11 (.alt 13 (.op 14 (.op 15 (.done))) (.done)))))) (.done)) (.done))) (.alt 12 (.alt 2 (.alt 7 (.op 8 (.op 9 (.op 10 (.op 11 (.alt 13 (.op 14 (.op 15 (.done))) (.done)))))) (.done)) (.done)) (.done)))))))))),(27,[0,0,2,7,15],.op 0 (.op 1 (.alt 2 (.alt 3 (.op 4 (.done)) (.done)) (.done)))),(33,[0,0,2,7,15],.op 0 (.op 1 (.alt 2 (.alt 3 (.op 4 (.done)) (.done)) (.done)))),(57,[0,1,0,7,0,31,0,127,0,511,0,2047,4095,8191,16383,16383,16383,0,163839,458751,1048575],.can (.op 0 (.op 2 (.op 4 (.op 6 (.op 8 (.op 10 (.alt 1 (.alt 3 (.alt 5 (.alt 7 (.alt 9 (.alt 11 (.alt 12 (.op 13 (.op 14 (.op 15 (.op 16 (.alt 17 (.alt 18 (.op 19 (.op 20 (.done))) (.done)) (.done)))))) (.alt 17 (.alt 12 (.op 13 (.op 14 (.op 15 (.op 16 (.alt 18 (.op 19 (.op 20 (.done))) (.done)))))) (.done)) (.done))) (.alt 17 (.alt 11 (.alt 12 (.op 13 (.op 14 (.op 15 (.op 16 (.alt 18 (.op 19 (.op 20 (.done))) (.done)))))) (.done)) (.done)) (.done))) (.alt 17 (.alt 9 (.alt 11 (.alt 12 (.op 13 (.op 14 (.op 15 (.op 16 (.alt 18 (.op 19 (.op 20 (.done))) (.done)))))) (.done)) (.done)) (.done)) (.done))) (.alt 17 (.alt 7 (.alt 9 (.alt 11 (.alt 12 (.op 13 (.op 14 (.op 15 (.op 16 (.alt 18 (.op 19 (.op 20 (.done))) (.done)))))) (.done)) (.done)) (.done)) (.done)) (.done))) (.alt 17 (.alt 5 (.alt 7 (.alt 9 (.alt 11 (.alt 12 (.op 13 (.op 14 (.op 15 (.op 16 (.alt 18 (.op 19 (.op 20 (.done))) (.done)))))) (.done)) (.done)) (.done)) (.done)) (.done)) (.done))) (.alt 17 (.alt 3 (.alt 5 (.alt 7 (.alt 9 (.alt 11 (.alt 12 (.op 13 (.op 14 (.op 15 (.op 16 (.alt 18 (.op 19 (.op 20 (.done))) (.done)))))) (.done)) (.done)) (.done)) (.done)) (.done)) (.done)) (.done))) (.alt 17 (.alt 1 (.alt 3 (.alt 5 (.alt 7 (.alt 9 (.alt 11 (.alt 12 (.op 13 (.op 14 (.op 15 (.op 16 (.alt 18 (.op 19 (.op 20 (.done))) (.done)))))) (.done)) (.done)) (.done)) (.done)) (.done)) (.done)) (.done)) (.done))))))))))]} (fn:=Tryz.f4) Tryz.func4 (by kernel_rfl) (by kernel_rfl) ?_
 rintro ⟨a0,a1,a2,a3,a4,a5,⟨⟩⟩ K ⟨r,h,hK⟩
 change ZEe a0 a1 a2 a3 a4 a5=some r at h
 unfold ZEe at h
 conv=>whnf
 refine Zpf h (fun h=>?_) (fun h=>?_)
 conv=>whnf
 cases h
 exact hK
 conv=>whnf
 refine Zpf h (fun h=>?_) (fun h=>?_)
 conv=>whnf
 cases h
 exact hK
 conv=>whnf
 refine Zbe h (fun szBlock0 hb0 h=>?_)
 conv=>whnf
 refine Zpf h (fun h=>?_) (fun h=>?_)
 conv=>whnf
 cases h
 exact hK
 conv=>whnf
 refine Zbe h (fun szCorner0 hb1 h=>?_)
 conv=>whnf
 refine Zpf h (fun h=>?_) (fun h=>?_)
 conv=>whnf
 cases h
 exact hK
 conv=>whnf
 refine Zbe h (fun szSourceS0 hb2 h=>?_)
 conv=>whnf
 refine Zpf h (fun h=>?_) (fun h=>?_)
 conv=>whnf
 cases h
 exact hK
 conv=>whnf
 refine Zbe h (fun szTiming0 hb3 h=>?_)
 conv=>whnf
 refine Zpf h (fun h=>?_) (fun h=>?_)
 conv=>whnf
 cases h
 exact hK
 conv=>whnf
 refine ⟨by kernel_rfl,?_⟩
 conv=>whnf
 obtain ⟨toBlock0,hb4,h⟩:=Option.bind_eq_some_iff.1 h
 obtain ⟨toCorner0,hb8,h⟩:=Option.bind_eq_some_iff.1 h
 obtain ⟨toInt64S0,hb9,h⟩:=Option.bind_eq_some_iff.1 h
 obtain ⟨toSourceS0,hb10,h⟩:=Option.bind_eq_some_iff.1 h
 obtain ⟨toTiming0,hb11,h⟩:=Option.bind_eq_some_iff.1 h
 obtain ⟨toInt64S1,hb12,h⟩:=Option.bind_eq_some_iff.1 h
 obtain ⟨UpdateTiming0,hb13,h⟩:=Option.bind_eq_some_iff.1 h
 apply ZHh
 focus
  intro tS
  conv=>whnf
  refine ⟨_,hb4,?_⟩
  conv=>whnf
  intro fp43
  conv=>whnf
  intro fp44
  conv=>whnf
  intro fp45
  conv=>whnf
  refine ⟨?_,?_⟩
  rotate_left
  focus
   conv=>whnf
   refine ⟨_,hb8,?_⟩
   conv=>whnf
   refine ⟨_,hb9,?_⟩
   conv=>whnf
   refine ⟨_,hb10,?_⟩
   conv=>whnf
   refine ⟨_,hb11,?_⟩
   conv=>whnf
   refine ⟨_,hb12,?_⟩
   conv=>whnf
   refine ⟨_,hb13,?_⟩
   conv=>whnf
   refine ⟨trivial,?_⟩
   conv=>whnf
   exact tS fp43 fp44 fp45
  rotate_right
  focus
   conv=>whnf
   refine ⟨_,hb8,?_⟩
   conv=>whnf
   refine ⟨?_,?_⟩
   rotate_left
   focus
    conv=>whnf
    refine ⟨_,hb9,?_⟩
    conv=>whnf
    refine ⟨_,hb10,?_⟩
    conv=>whnf
    refine ⟨_,hb11,?_⟩
    conv=>whnf
    refine ⟨_,hb12,?_⟩
    conv=>whnf
    refine ⟨_,hb13,?_⟩
    conv=>whnf
    refine ⟨trivial,?_⟩
    conv=>whnf
    exact tS fp43 fp44 fp45
   rotate_right
   focus
    conv=>whnf
    refine ⟨_,hb9,?_⟩
    conv=>whnf
    refine ⟨?_,?_⟩
    rotate_left
    focus
     conv=>whnf
     refine ⟨_,hb10,?_⟩
     conv=>whnf
     refine ⟨_,hb11,?_⟩
     conv=>whnf
     refine ⟨_,hb12,?_⟩
     conv=>whnf
     refine ⟨_,hb13,?_⟩
     conv=>whnf
     refine ⟨trivial,?_⟩
     conv=>whnf
     exact tS fp43 fp44 fp45
    rotate_right
    focus
     conv=>whnf
     refine ⟨_,hb10,?_⟩
     conv=>whnf
     refine ⟨?_,?_⟩
     rotate_left
     focus
      conv=>whnf
      refine ⟨_,hb11,?_⟩
      conv=>whnf
      refine ⟨_,hb12,?_⟩
      conv=>whnf
      refine ⟨_,hb13,?_⟩
      conv=>whnf
      refine ⟨trivial,?_⟩
      conv=>whnf
      exact tS fp43 fp44 fp45
     rotate_right
     focus
      conv=>whnf
      refine ⟨_,hb11,?_⟩
      conv=>whnf
      refine ⟨?_,?_⟩
      rotate_left
      focus
       conv=>whnf
       refine ⟨_,hb12,?_⟩
       conv=>whnf
       refine ⟨_,hb13,?_⟩
       conv=>whnf
       refine ⟨trivial,?_⟩
       conv=>whnf
       exact tS fp43 fp44 fp45
      rotate_right
      focus
       conv=>whnf
       refine ⟨_,hb12,?_⟩
       conv=>whnf
       refine ⟨?_,?_⟩
       rotate_left
       focus
        conv=>whnf
        refine ⟨_,hb13,?_⟩
        conv=>whnf
        refine ⟨trivial,?_⟩
        conv=>whnf
        exact tS fp43 fp44 fp45
       rotate_right
       focus
        conv=>whnf
        refine ⟨_,hb13,?_⟩
        conv=>whnf
        refine ⟨trivial,?_⟩
        conv=>whnf
        exact tS fp43 fp44 fp45
 focus
  intro tS
  conv=>whnf
  refine ⟨_,hb4,?_⟩
  conv=>whnf
  intro fp43
  conv=>whnf
  intro fp44
  conv=>whnf
  intro fp45
  conv=>whnf
  refine ⟨_,hb8,?_⟩
  conv=>whnf
  refine ⟨_,hb9,?_⟩
  conv=>whnf
  refine ⟨_,hb10,?_⟩
  conv=>whnf
  refine ⟨_,hb11,?_⟩
  conv=>whnf
  refine ⟨_,hb12,?_⟩
  conv=>whnf
  refine ⟨_,hb13,?_⟩
  conv=>whnf
  refine ⟨trivial,?_⟩
  conv=>whnf
  exact tS fp43 fp44 fp45
 intro fp5 fp6 fp7
 conv=>whnf
 refine ⟨_,hb4,?_⟩
 conv=>whnf
 intro fp14
 conv=>whnf
 intro fp15
 conv=>whnf
 intro fp16
 conv=>whnf
 refine ⟨_,hb9,?_⟩
 conv=>whnf
 refine ⟨_,hb10,?_⟩
 conv=>whnf
 refine ⟨_,hb11,?_⟩
 conv=>whnf
 refine ⟨_,hb12,?_⟩
 conv=>whnf
 refine ⟨by kernel_rfl,?_⟩
 conv=>whnf
 obtain ⟨UpdateTiming1,hb17,h⟩:=Option.bind_eq_some_iff.1 h
 apply ZHp
 focus
  intro tS
  conv=>whnf
  refine ⟨_,hb8,?_⟩
  conv=>whnf
  refine ⟨?_,?_⟩
  rotate_left
  focus
   conv=>whnf
   refine ⟨_,hb17,?_⟩
   conv=>whnf
   refine ⟨trivial,?_⟩
   conv=>whnf
   exact tS
  rotate_right
  focus
   conv=>whnf
   refine ⟨_,hb17,?_⟩
   conv=>whnf
   refine ⟨trivial,?_⟩
   conv=>whnf
   exact tS
 focus
  intro tS
  conv=>whnf
  refine ⟨_,hb8,?_⟩
  conv=>whnf
  refine ⟨_,hb17,?_⟩
  conv=>whnf
  refine ⟨trivial,?_⟩
  conv=>whnf
  exact tS
 conv=>whnf
 refine Zbe h (fun eqTiming0 hb18 h=>?_)
 conv=>whnf
 refine Zun ?_
 refine ZrY h (fun h=>?_) (fun h=>?_)
 conv=>whnf
 refine Zbe h (fun eqInt64S0 hb19 h=>?_)
 conv=>whnf
 refine Zun ?_
 refine ZrY h (fun h=>?_) (fun h=>?_)
 conv=>whnf
 refine Zkg ?_
 refine Zpf h (fun h=>?_) (fun h=>?_)
 conv=>whnf
 refine ⟨by kernel_rfl,?_⟩
 conv=>whnf
 refine ⟨_,hb4,?_⟩
 conv=>whnf
 intro fp20
 conv=>whnf
 intro fp21
 conv=>whnf
 intro fp22
 conv=>whnf
 refine Zbe h (fun eqBlock0 hb23 h=>?_)
 conv=>whnf
 refine ⟨trivial,?_⟩
 conv=>whnf
 refine Zkg ?_
 refine ZrY h (fun h=>?_) (fun h=>?_)
 conv=>whnf
 refine ⟨_,hb9,?_⟩
 conv=>whnf
 refine Zbe h (fun eqInt64S1 hb24 h=>?_)
 conv=>whnf
 refine Zkg ?_
 refine ZrY h (fun h=>?_) (fun h=>?_)
 conv=>whnf
 refine ⟨_,hb10,?_⟩
 conv=>whnf
 refine Zbe h (fun eqSourceS0 hb25 h=>?_)
 conv=>whnf
 refine Zkg ?_
 refine ZrY h (fun h=>?_) (fun h=>?_)
 conv=>whnf
 refine ⟨by kernel_rfl,?_⟩
 conv=>whnf
 refine ⟨_,hb11,?_⟩
 conv=>whnf
 refine Zbe h (fun eqTiming1 hb26 h=>?_)
 conv=>whnf
 refine ⟨trivial,?_⟩
 conv=>whnf
 refine Zkg ?_
 refine ZrY h (fun h=>?_) (fun h=>?_)
 conv=>whnf
 refine ⟨_,hb12,?_⟩
 conv=>whnf
 refine Zbe h (fun eqInt64S2 hb27 h=>?_)
 conv=>whnf
 refine Zkg ?_
 refine ZrY h (fun h=>?_) (fun h=>?_)
 conv=>whnf
 refine Zbe h (fun markBlock0 hb28 h=>?_)
 conv=>whnf
 intro fp29
 conv=>whnf
 intro fp30
 conv=>whnf
 intro fp31
 conv=>whnf
 refine Zbe h (fun markInt64S0 hb32 h=>?_)
 conv=>whnf
 refine Zbe h (fun markSourceS0 hb33 h=>?_)
 conv=>whnf
 refine Zbe h (fun markTiming0 hb34 h=>?_)
 conv=>whnf
 refine Zbe h (fun markInt64S1 hb35 h=>?_)
 conv=>whnf
 refine ZsB h (fun h=>?_) (fun h=>?_)
 conv=>whnf
 cases h
 exact hK
 conv=>whnf
 refine ⟨_,hb18,?_⟩
 conv=>whnf
 refine Zun ?_
 refine ZrY h (fun h=>?_) (fun h=>?_)
 conv=>whnf
 refine ⟨_,hb19,?_⟩
 conv=>whnf
 refine Zun ?_
 refine ZrY h (fun h=>?_) (fun h=>?_)
 conv=>whnf
 refine Zkg ?_
 refine Zpf h (fun h=>?_) (fun h=>?_)
 conv=>whnf
 refine Zbe h (fun markTiming1 hb36 h=>?_)
 conv=>whnf
 refine Zbe h (fun markInt64S2 hb37 h=>?_)
 conv=>whnf
 refine Zbe h (fun heldTiming0 hb38 h=>?_)
 conv=>whnf
 refine Zpf h (fun h=>?_) (fun h=>?_)
 conv=>whnf
 cases h
 exact hK
 conv=>whnf
 refine Zbe h (fun heldInt64S0 hb39 h=>?_)
 conv=>whnf
 refine Zpf h (fun h=>?_) (fun h=>?_)
 conv=>whnf
 cases h
 exact hK
 conv=>whnf
 refine Zkg ?_
 refine Zpf h (fun h=>?_) (fun h=>?_)
 conv=>whnf
 refine ⟨by kernel_rfl,?_⟩
 conv=>whnf
 apply ZHh
 focus
  intro tS
  conv=>whnf
  refine ⟨_,hb4,?_⟩
  conv=>whnf
  intro fp40
  conv=>whnf
  intro fp41
  conv=>whnf
  intro fp42
  conv=>whnf
  refine ⟨?_,?_⟩
  rotate_left
  focus
   conv=>whnf
   refine ⟨_,hb8,?_⟩
   conv=>whnf
   refine ⟨_,hb9,?_⟩
   conv=>whnf
   refine ⟨_,hb10,?_⟩
   conv=>whnf
   refine ⟨_,hb11,?_⟩
   conv=>whnf
   refine ⟨_,hb12,?_⟩
   conv=>whnf
   refine ⟨_,hb17,?_⟩
   conv=>whnf
   refine ⟨trivial,?_⟩
   conv=>whnf
   exact tS fp40 fp41 fp42
  rotate_right
  focus
   conv=>whnf
   refine ⟨_,hb8,?_⟩
   conv=>whnf
   refine ⟨?_,?_⟩
   rotate_left
   focus
    conv=>whnf
    refine ⟨_,hb9,?_⟩
    conv=>whnf
    refine ⟨_,hb10,?_⟩
    conv=>whnf
    refine ⟨_,hb11,?_⟩
    conv=>whnf
    refine ⟨_,hb12,?_⟩
    conv=>whnf
    refine ⟨_,hb17,?_⟩
    conv=>whnf
    refine ⟨trivial,?_⟩
    conv=>whnf
    exact tS fp40 fp41 fp42
   rotate_right
   focus
    conv=>whnf
    refine ⟨_,hb9,?_⟩
    conv=>whnf
    refine ⟨?_,?_⟩
    rotate_left
    focus
     conv=>whnf
     refine ⟨_,hb10,?_⟩
     conv=>whnf
     refine ⟨_,hb11,?_⟩
     conv=>whnf
     refine ⟨_,hb12,?_⟩
     conv=>whnf
     refine ⟨_,hb17,?_⟩
     conv=>whnf
     refine ⟨trivial,?_⟩
     conv=>whnf
     exact tS fp40 fp41 fp42
    rotate_right
    focus
     conv=>whnf
     refine ⟨_,hb10,?_⟩
     conv=>whnf
     refine ⟨?_,?_⟩
     rotate_left
     focus
      conv=>whnf
      refine ⟨_,hb11,?_⟩
      conv=>whnf
      refine ⟨_,hb12,?_⟩
      conv=>whnf
      refine ⟨_,hb17,?_⟩
      conv=>whnf
      refine ⟨trivial,?_⟩
      conv=>whnf
      exact tS fp40 fp41 fp42
     rotate_right
     focus
      conv=>whnf
      refine ⟨_,hb11,?_⟩
      conv=>whnf
      refine ⟨?_,?_⟩
      rotate_left
      focus
       conv=>whnf
       refine ⟨_,hb12,?_⟩
       conv=>whnf
       refine ⟨_,hb17,?_⟩
       conv=>whnf
       refine ⟨trivial,?_⟩
       conv=>whnf
       exact tS fp40 fp41 fp42
      rotate_right
      focus
       conv=>whnf
       refine ⟨_,hb12,?_⟩
       conv=>whnf
       refine ⟨?_,?_⟩
       rotate_left
       focus
        conv=>whnf
        refine ⟨_,hb17,?_⟩
        conv=>whnf
        refine ⟨trivial,?_⟩
        conv=>whnf
        exact tS fp40 fp41 fp42
       rotate_right
       focus
        conv=>whnf
        refine ⟨_,hb17,?_⟩
        conv=>whnf
        refine ⟨trivial,?_⟩
        conv=>whnf
        exact tS fp40 fp41 fp42
 focus
  intro tS
  conv=>whnf
  refine ⟨_,hb4,?_⟩
  conv=>whnf
  intro fp40
  conv=>whnf
  intro fp41
  conv=>whnf
  intro fp42
  conv=>whnf
  refine ⟨_,hb8,?_⟩
  conv=>whnf
  refine ⟨_,hb9,?_⟩
  conv=>whnf
  refine ⟨_,hb10,?_⟩
  conv=>whnf
  refine ⟨_,hb11,?_⟩
  conv=>whnf
  refine ⟨_,hb12,?_⟩
  conv=>whnf
  refine ⟨_,hb17,?_⟩
  conv=>whnf
  refine ⟨trivial,?_⟩
  conv=>whnf
  exact tS fp40 fp41 fp42
 intro fp40 fp41 fp42
 conv=>whnf
 refine ⟨_,hb18,?_⟩
 conv=>whnf
 refine Zun ?_
 refine ZrY h (fun h=>?_) (fun h=>?_)
 conv=>whnf
 refine ⟨_,hb19,?_⟩
 conv=>whnf
 refine Zun ?_
 refine ZrY h (fun h=>?_) (fun h=>?_)
 conv=>whnf
 refine Zkg ?_
 refine Zpf h (fun h=>?_) (fun h=>?_)
 conv=>whnf
 refine ⟨_,hb38,?_⟩
 conv=>whnf
 refine Zpf h (fun h=>?_) (fun h=>?_)
 conv=>whnf
 cases h
 exact hK
 conv=>whnf
 refine ⟨_,hb39,?_⟩
 conv=>whnf
 refine Zpf h (fun h=>?_) (fun h=>?_)
 conv=>whnf
 cases h
 exact hK
 conv=>whnf
 refine Zkg ?_
 refine Zpf h (fun h=>?_) (fun h=>?_)
 conv=>whnf
 cases h
 exact hK
 conv=>whnf
 cases h
 exact hK
 conv=>whnf
 cases h
 exact hK
 conv=>whnf
 cases h
 exact hK
 conv=>whnf
 cases h
 exact hK
 conv=>whnf
 cases h
 exact hK
 conv=>whnf
 cases h
 exact hK
 conv=>whnf
 cases h
 exact hK
 conv=>whnf
 cases h
 exact hK
 conv=>whnf
 cases h
 exact hK
 conv=>whnf
 cases h
 exact hK
 conv=>whnf
 cases h
 exact hK
 conv=>whnf
 cases h
 exact hK
 conv=>whnf
 cases h
 exact hK
 conv=>whnf
 cases h
 exact hK
 conv=>whnf
 cases h
 exact hK
 conv=>whnf
 cases h
 exact hK
end Go.Proofs.YtclfgjepbamnlaaGreatDoor
