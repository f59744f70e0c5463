/-
  The functions keep their contracts, if what they call does. Printed by program.
-/
import Derived.Test.YtnnbgbgapogckaaGreatDoorM
import Derived.KernelRfl
namespace Go.Proofs.YtnnbgbgapogckaaGreatDoor
open Go Go.Sx
set_option maxRecDepth 100000
set_option maxHeartbeats 6400000
set_option linter.unusedVariables false
set_option linter.unusedSimpArgs false
theorem w_laws_FnWireGrows (q7:Sq 9 c0) (q0:Sq 14 c22) (q1:Sq 15 c83) (q2:Sq 16 ZAX) (q6:Sq 17 c105) (q3:Sq 18 ZAY) (q4:Sq 19 ZBi) (q5:Sq 20 ZBj):Sq 4 ZEi:=by
 refine Zm ZL (Zg q7 (Zg q0 (Zg q1 (Zg q2 (Zg q6 (Zg q3 (Zg q4 (Zg q5 Zu)))))))) mixed {loops:=[(0,[.reg 21 (.dat Iq)])],draws:=[(13,[0,1,0,0,8,28,0,0,128,508,0,1024,4095,0,16383],.can (.op 0 (.op 3 (.op 4 (.op 7 (.op 10 (.ld 1 (.ld 8 (.ld 11 (.alt 2 (.alt 5 (.alt 6 (.alt 9 (.op 12 (.alt 13 (.alt 14 (.done) (.done)) (.done))) (.alt 13 (.alt 9 (.op 12 (.alt 14 (.done) (.done))) (.done)) (.done))) (.alt 13 (.alt 6 (.alt 9 (.op 12 (.alt 14 (.done) (.done))) (.done)) (.done)) (.done))) (.alt 6 (.alt 5 (.alt 9 (.op 12 (.alt 13 (.alt 14 (.done) (.done)) (.done))) (.alt 13 (.alt 9 (.op 12 (.alt 14 (.done) (.done))) (.done)) (.done))) (.alt 13 (.alt 5 (.alt 9 (.op 12 (.alt 14 (.done) (.done))) (.done)) (.done)) (.done))) (.alt 13 (.alt 5 (.alt 6 (.alt 9 (.op 12 (.alt 14 (.done) (.done))) (.done)) (.done)) (.alt 6 (.alt 5 (.alt 9 (.op 12 (.alt 14 (.done) (.done))) (.done)) (.done)) (.done))) (.done)))) (.alt 6 (.alt 2 (.alt 5 (.alt 9 (.op 12 (.alt 13 (.alt 14 (.done) (.done)) (.done))) (.alt 13 (.alt 9 (.op 12 (.alt 14 (.done) (.done))) (.done)) (.done))) (.alt 13 (.alt 5 (.alt 9 (.op 12 (.alt 14 (.done) (.done))) (.done)) (.done)) (.done))) (.alt 13 (.alt 2 (.alt 5 (.alt 9 (.op 12 (.alt 14 (.done) (.done))) (.done)) (.done)) (.done)) (.done))) (.alt 13 (.alt 2 (.alt 5 (.alt 6 (.alt 9 (.op 12 (.alt 14 (.done) (.done))) (.done)) (.done)) (.alt 6 (.alt 5 (.alt 9 (.op 12 (.alt 14 (.done) (.done))) (.done)) (.done)) (.done))) (.alt 6 (.alt 2 (.alt 5 (.alt 9 (.op 12 (.alt 14 (.done) (.done))) (.done)) (.done)) (.done)) (.done))) (.done))))))))))))),(14,[0,1,0,0,8,0,56,120,248,504,1023,2047],.op 0 (.op 1 (.op 2 (.op 3 (.op 4 (.op 5 (.op 6 (.op 7 (.op 8 (.op 9 (.op 10 (.alt 11 (.done) (.done))))))))))))),(16,[0,1,0,0,8,0,56,120,248,504,1023,2047],.op 0 (.op 1 (.op 2 (.op 3 (.op 4 (.op 5 (.op 6 (.op 7 (.op 8 (.op 9 (.op 10 (.alt 11 (.done) (.done))))))))))))),(21,[0,1,3,7,15,31,63,127,255,127,639,2047,4095,8191,16383,32767,16383,81919,212991,524287,1048575,2097151,4194303,4194303,16777215,4194303,37748735,4194303,239075327,507510783,4194303,1077936127,4194303,7520387071,16110321663,34330378239,68719476735,137438953471],.op 0 (.op 1 (.op 2 (.op 3 (.op 4 (.op 5 (.op 6 (.op 7 (.op 8 (.op 9 (.op 10 (.op 11 (.op 12 (.op 13 (.op 14 (.op 15 (.op 16 (.op 17 (.op 18 (.op 19 (.op 20 (.op 21 (.op 22 (.op 23 (.op 24 (.op 25 (.op 26 (.op 27 (.op 28 (.op 29 (.op 30 (.op 31 (.op 32 (.op 33 (.op 34 (.op 35 (.op 36 (.op 37 (.done))))))))))))))))))))))))))))))))))))))),(26,[0,0,3,7,0,0,48,112,255],.op 0 (.op 1 (.op 2 (.op 3 (.op 4 (.op 5 (.op 6 (.op 7 (.op 8 (.done))))))))))]} (fn:=Tryz.f4) Tryz.func4 (by kernel_rfl) (by kernel_rfl) ?_
 rintro ⟨a0,⟨⟩⟩ K ⟨r,h,hK⟩
 change ZD9 a0=some r at h
 unfold ZD9 at h
 conv=>whnf
 refine Ze h (fun big0 hb0 h=>?_)
 conv=>whnf
 refine Qn h (fun h=>?_) (fun h=>?_)
 conv=>whnf
 cases h
 exact hK
 conv=>whnf
 refine Ze h (fun DrawNodeDelays0 hb1 h=>?_)
 conv=>whnf
 refine Ze h (fun NodeDelays0 hb2 h=>?_)
 conv=>whnf
 refine Ze h (fun NodeDelays1 hb3 h=>?_)
 conv=>whnf
 refine Yc ?_
 refine ZG h (fun h=>?_) (fun h=>?_)
 conv=>whnf
 refine Yc ?_
 refine ZG h (fun h=>?_) (fun h=>?_)
 conv=>whnf
 refine Ze h (fun roll0 hb4 h=>?_)
 conv=>whnf
 refine vAt h (fun x0 he5a he5b he5x h=>?_)
 conv=>whnf
 refine Ze h (fun below0 hb6 h=>?_)
 conv=>whnf
 refine ⟨by kernel_rfl,?_⟩
 conv=>whnf
 refine ⟨by kernel_rfl,?_⟩
 conv=>whnf
 refine ⟨by kernel_rfl,?_⟩
 conv=>whnf
 refine ⟨by kernel_rfl,?_⟩
 conv=>whnf
 obtain ⟨hp7,h⟩:=guardE h
 obtain ⟨hp8,h⟩:=guardE h
 apply Zou
 focus
  intro tS
  conv=>whnf
  refine ⟨?_,?_⟩
  rotate_left
  focus
   conv=>whnf
   refine ⟨?_,?_⟩
   rotate_left
   focus
    conv=>whnf
    refine ⟨?_,?_⟩
    rotate_left
    focus
     conv=>whnf
     refine ⟨by kernel_rfl,?_⟩
     conv=>whnf
     refine ⟨hp7,?_⟩
     conv=>whnf
     refine ⟨by kernel_rfl,?_⟩
     conv=>whnf
     refine ⟨hp8,?_⟩
     conv=>whnf
     refine ⟨trivial,?_⟩
     conv=>whnf
     exact tS
    rotate_right
    focus
     conv=>whnf
     refine ⟨by kernel_rfl,?_⟩
     conv=>whnf
     refine ⟨hp7,?_⟩
     conv=>whnf
     refine ⟨by kernel_rfl,?_⟩
     conv=>whnf
     refine ⟨hp8,?_⟩
     conv=>whnf
     refine ⟨trivial,?_⟩
     conv=>whnf
     exact tS
   rotate_right
   focus
    conv=>whnf
    refine ⟨?_,?_⟩
    rotate_left
    focus
     conv=>whnf
     refine ⟨by kernel_rfl,?_⟩
     conv=>whnf
     refine ⟨hp7,?_⟩
     conv=>whnf
     refine ⟨by kernel_rfl,?_⟩
     conv=>whnf
     refine ⟨hp8,?_⟩
     conv=>whnf
     refine ⟨trivial,?_⟩
     conv=>whnf
     exact tS
    rotate_right
    focus
     conv=>whnf
     refine ⟨by kernel_rfl,?_⟩
     conv=>whnf
     refine ⟨hp7,?_⟩
     conv=>whnf
     refine ⟨?_,?_⟩
     rotate_left
     focus
      conv=>whnf
      refine ⟨by kernel_rfl,?_⟩
      conv=>whnf
      refine ⟨hp8,?_⟩
      conv=>whnf
      refine ⟨trivial,?_⟩
      conv=>whnf
      exact tS
     rotate_right
     focus
      conv=>whnf
      refine ⟨by kernel_rfl,?_⟩
      conv=>whnf
      refine ⟨hp8,?_⟩
      conv=>whnf
      refine ⟨trivial,?_⟩
      conv=>whnf
      exact tS
  rotate_right
  focus
   conv=>whnf
   refine ⟨by kernel_rfl,?_⟩
   conv=>whnf
   refine ⟨hp7,?_⟩
   conv=>whnf
   refine ⟨?_,?_⟩
   rotate_left
   focus
    conv=>whnf
    refine ⟨by kernel_rfl,?_⟩
    conv=>whnf
    refine ⟨hp8,?_⟩
    conv=>whnf
    refine ⟨trivial,?_⟩
    conv=>whnf
    exact tS
   rotate_right
   focus
    conv=>whnf
    refine ⟨?_,?_⟩
    rotate_left
    focus
     conv=>whnf
     refine ⟨by kernel_rfl,?_⟩
     conv=>whnf
     refine ⟨hp8,?_⟩
     conv=>whnf
     refine ⟨trivial,?_⟩
     conv=>whnf
     exact tS
    rotate_right
    focus
     conv=>whnf
     refine ⟨by kernel_rfl,?_⟩
     conv=>whnf
     refine ⟨hp8,?_⟩
     conv=>whnf
     refine ⟨trivial,?_⟩
     conv=>whnf
     exact tS
 focus
  intro tS
  conv=>whnf
  refine ⟨?_,?_⟩
  rotate_left
  focus
   conv=>whnf
   refine ⟨?_,?_⟩
   rotate_left
   focus
    conv=>whnf
    refine ⟨by kernel_rfl,?_⟩
    conv=>whnf
    refine ⟨hp7,?_⟩
    conv=>whnf
    refine ⟨by kernel_rfl,?_⟩
    conv=>whnf
    refine ⟨hp8,?_⟩
    conv=>whnf
    refine ⟨trivial,?_⟩
    conv=>whnf
    exact tS
   rotate_right
   focus
    conv=>whnf
    refine ⟨?_,?_⟩
    rotate_left
    focus
     conv=>whnf
     refine ⟨by kernel_rfl,?_⟩
     conv=>whnf
     refine ⟨hp7,?_⟩
     conv=>whnf
     refine ⟨by kernel_rfl,?_⟩
     conv=>whnf
     refine ⟨hp8,?_⟩
     conv=>whnf
     refine ⟨trivial,?_⟩
     conv=>whnf
     exact tS
    rotate_right
    focus
     conv=>whnf
     refine ⟨by kernel_rfl,?_⟩
     conv=>whnf
     refine ⟨hp7,?_⟩
     conv=>whnf
     refine ⟨by kernel_rfl,?_⟩
     conv=>whnf
     refine ⟨hp8,?_⟩
     conv=>whnf
     refine ⟨trivial,?_⟩
     conv=>whnf
     exact tS
  rotate_right
  focus
   conv=>whnf
   refine ⟨?_,?_⟩
   rotate_left
   focus
    conv=>whnf
    refine ⟨by kernel_rfl,?_⟩
    conv=>whnf
    refine ⟨hp7,?_⟩
    conv=>whnf
    refine ⟨by kernel_rfl,?_⟩
    conv=>whnf
    refine ⟨hp8,?_⟩
    conv=>whnf
    refine ⟨trivial,?_⟩
    conv=>whnf
    exact tS
   rotate_right
   focus
    conv=>whnf
    refine ⟨?_,?_⟩
    rotate_left
    focus
     conv=>whnf
     refine ⟨by kernel_rfl,?_⟩
     conv=>whnf
     refine ⟨hp7,?_⟩
     conv=>whnf
     refine ⟨by kernel_rfl,?_⟩
     conv=>whnf
     refine ⟨hp8,?_⟩
     conv=>whnf
     refine ⟨trivial,?_⟩
     conv=>whnf
     exact tS
    rotate_right
    focus
     conv=>whnf
     refine ⟨by kernel_rfl,?_⟩
     conv=>whnf
     refine ⟨hp7,?_⟩
     conv=>whnf
     refine ⟨?_,?_⟩
     rotate_left
     focus
      conv=>whnf
      refine ⟨by kernel_rfl,?_⟩
      conv=>whnf
      refine ⟨hp8,?_⟩
      conv=>whnf
      refine ⟨trivial,?_⟩
      conv=>whnf
      exact tS
     rotate_right
     focus
      conv=>whnf
      refine ⟨by kernel_rfl,?_⟩
      conv=>whnf
      refine ⟨hp8,?_⟩
      conv=>whnf
      refine ⟨trivial,?_⟩
      conv=>whnf
      exact tS
 conv=>whnf
 refine ⟨by kernel_rfl,?_⟩
 conv=>whnf
 refine vAt h (fun x1 he9a he9b he9x h=>?_)
 conv=>whnf
 refine ⟨by kernel_rfl,?_⟩
 conv=>whnf
 refine ⟨he9a,he9b,Zh he9x ?_⟩
 conv=>whnf
 refine ⟨he9a,he9b,Zh he9x ?_⟩
 conv=>whnf
 refine ⟨by kernel_rfl,?_⟩
 conv=>whnf
 refine ⟨by decide,?_⟩
 conv=>whnf
 refine ⟨he9a,he9b,Zh he9x ?_⟩
 conv=>whnf
 refine ⟨trivial,?_⟩
 conv=>whnf
 refine ZG h (fun h=>?_) (fun h=>?_)
 conv=>whnf
 refine ⟨by kernel_rfl,?_⟩
 conv=>whnf
 refine vAt h (fun x2 he10a he10b he10x h=>?_)
 conv=>whnf
 refine ⟨by kernel_rfl,?_⟩
 conv=>whnf
 refine ⟨he10a,he10b,Zh he10x ?_⟩
 conv=>whnf
 refine ⟨he10a,he10b,Zh he10x ?_⟩
 conv=>whnf
 refine ⟨by kernel_rfl,?_⟩
 conv=>whnf
 refine ⟨by decide,?_⟩
 conv=>whnf
 refine ⟨he10a,he10b,Zh he10x ?_⟩
 conv=>whnf
 refine ⟨trivial,?_⟩
 conv=>whnf
 refine Ze h (fun ApplyEdit0 hb11 h=>?_)
 conv=>whnf
 intro fp12
 conv=>whnf
 intro fp13
 conv=>whnf
 intro fp14
 conv=>whnf
 refine Ze h (fun NodeDelays2 hb15 h=>?_)
 conv=>whnf
 refine Ze h (fun NetLoad0 hb16 h=>?_)
 conv=>whnf
 refine Ze h (fun NetLoad1 hb17 h=>?_)
 conv=>whnf
 refine ⟨by kernel_rfl,?_⟩
 conv=>whnf
 refine Zj4 ?_
 refine ZG h (fun h=>?_) (fun h=>?_)
 conv=>whnf
 refine Zj4 ?_
 refine ZG h (fun h=>?_) (fun h=>?_)
 conv=>whnf
 refine Zj4 ?_
 refine ZG h (fun h=>?_) (fun h=>?_)
 conv=>whnf
 refine Zj4 ?_
 refine ZG h (fun h=>?_) (fun h=>?_)
 conv=>whnf
 refine vAt h (fun x3 he18a he18b he18x h=>?_)
 conv=>whnf
 refine ⟨by kernel_rfl,?_⟩
 conv=>whnf
 refine ⟨he18a,he18b,Zh he18x ?_⟩
 conv=>whnf
 refine vAt h (fun x4 he19a he19b he19x h=>?_)
 conv=>whnf
 refine ⟨trivial,?_⟩
 conv=>whnf
 refine Yc ?_
 refine ZG h (fun h=>?_) (fun h=>?_)
 conv=>whnf
 refine YH h ?_
 rintro I20 μ20 ⟨v0,⟨⟩⟩ zs20 h hI20 hR20
 change ZD2 NodeDelays0 NodeDelays2 v0=some zs20 at h
 unfold ZD2 at h
 conv=>whnf
 refine ZG h (fun h=>?_) (fun h=>?_)
 conv=>whnf
 refine ⟨by kernel_rfl,?_⟩
 conv=>whnf
 refine vAt h (fun x5 he21a he21b he21x h=>?_)
 conv=>whnf
 refine ⟨by kernel_rfl,?_⟩
 conv=>whnf
 refine ⟨he21a,he21b,Zh he21x ?_⟩
 conv=>whnf
 refine vAt h (fun x6 he22a he22b he22x h=>?_)
 conv=>whnf
 refine ⟨by kernel_rfl,?_⟩
 conv=>whnf
 refine ⟨he22a,he22b,Zh he22x ?_⟩
 conv=>whnf
 refine ⟨trivial,?_⟩
 conv=>whnf
 refine ZG h (fun h=>?_) (fun h=>?_)
 conv=>whnf
 cases h
 obtain rfl:=hR20 _ rfl
 exact hK
 conv=>whnf
 cases h
 exact ⟨⟨rfl,rfl⟩,hI20 _ rfl⟩
 conv=>whnf
 cases h
 obtain rfl:=hR20 _ rfl
 exact hK
 conv=>whnf
 cases h
 exact hK
 conv=>whnf
 refine ⟨trivial,?_⟩
 conv=>whnf
 cases h
 exact hK
 conv=>whnf
 refine ⟨trivial,?_⟩
 conv=>whnf
 cases h
 exact hK
 conv=>whnf
 refine ⟨trivial,?_⟩
 conv=>whnf
 cases h
 exact hK
 conv=>whnf
 refine ⟨trivial,?_⟩
 conv=>whnf
 cases h
 exact hK
 conv=>whnf
 refine Ze h (fun ApplyEdit0 hb23 h=>?_)
 conv=>whnf
 intro fp24
 conv=>whnf
 intro fp25
 conv=>whnf
 intro fp26
 conv=>whnf
 refine Ze h (fun NodeDelays2 hb27 h=>?_)
 conv=>whnf
 refine Ze h (fun NetLoad0 hb28 h=>?_)
 conv=>whnf
 refine Ze h (fun NetLoad1 hb29 h=>?_)
 conv=>whnf
 refine ⟨by kernel_rfl,?_⟩
 conv=>whnf
 refine Zj4 ?_
 refine ZG h (fun h=>?_) (fun h=>?_)
 conv=>whnf
 refine Zj4 ?_
 refine ZG h (fun h=>?_) (fun h=>?_)
 conv=>whnf
 refine Zj4 ?_
 refine ZG h (fun h=>?_) (fun h=>?_)
 conv=>whnf
 refine Zj4 ?_
 refine ZG h (fun h=>?_) (fun h=>?_)
 conv=>whnf
 refine vAt h (fun x2 he30a he30b he30x h=>?_)
 conv=>whnf
 refine ⟨by kernel_rfl,?_⟩
 conv=>whnf
 refine ⟨he30a,he30b,Zh he30x ?_⟩
 conv=>whnf
 refine vAt h (fun x3 he31a he31b he31x h=>?_)
 conv=>whnf
 refine ⟨trivial,?_⟩
 conv=>whnf
 refine Yc ?_
 refine ZG h (fun h=>?_) (fun h=>?_)
 conv=>whnf
 refine YH h ?_
 rintro I32 μ32 ⟨v0,⟨⟩⟩ zs32 h hI32 hR32
 change ZD3 NodeDelays0 NodeDelays2 v0=some zs32 at h
 unfold ZD3 at h
 conv=>whnf
 refine ZG h (fun h=>?_) (fun h=>?_)
 conv=>whnf
 refine ⟨by kernel_rfl,?_⟩
 conv=>whnf
 refine vAt h (fun x4 he33a he33b he33x h=>?_)
 conv=>whnf
 refine ⟨by kernel_rfl,?_⟩
 conv=>whnf
 refine ⟨he33a,he33b,Zh he33x ?_⟩
 conv=>whnf
 refine vAt h (fun x5 he34a he34b he34x h=>?_)
 conv=>whnf
 refine ⟨by kernel_rfl,?_⟩
 conv=>whnf
 refine ⟨he34a,he34b,Zh he34x ?_⟩
 conv=>whnf
 refine ⟨trivial,?_⟩
 conv=>whnf
 refine ZG h (fun h=>?_) (fun h=>?_)
 conv=>whnf
 cases h
 obtain rfl:=hR32 _ rfl
 exact hK
 conv=>whnf
 cases h
 exact ⟨⟨rfl,rfl⟩,hI32 _ rfl⟩
 conv=>whnf
 cases h
 obtain rfl:=hR32 _ rfl
 exact hK
 conv=>whnf
 cases h
 exact hK
 conv=>whnf
 refine ⟨trivial,?_⟩
 conv=>whnf
 cases h
 exact hK
 conv=>whnf
 refine ⟨trivial,?_⟩
 conv=>whnf
 cases h
 exact hK
 conv=>whnf
 refine ⟨trivial,?_⟩
 conv=>whnf
 cases h
 exact hK
 conv=>whnf
 refine ⟨trivial,?_⟩
 conv=>whnf
 cases h
 exact hK
 conv=>whnf
 cases h
 exact hK
 conv=>whnf
 cases h
 exact hK
end Go.Proofs.YtnnbgbgapogckaaGreatDoor
