/-
  The functions keep their contracts, if what they call does. Printed by program.
-/
import Derived.Test.YtpkjjgdhmafonaaGreatDoorM
import Derived.KernelRfl
namespace Go.Proofs.YtpkjjgdhmafonaaGreatDoor
open Go Go.Sx
set_option maxRecDepth 100000
set_option maxHeartbeats 3200000
set_option linter.unusedVariables false
set_option linter.unusedSimpArgs false
theorem w159:SoundC Tryz.prog 88 c159:=by
 refine fn_sound tabD_ok gam_nil mixed {draws:=[(2,[0,1,3,7,15,0,32,0,255,511,1023],.op 0 (.op 1 (.op 2 (.op 3 (.op 4 (.op 5 (.op 6 (.op 7 (.op 8 (.op 9 (.alt 10 (.done) (.done)))))))))))),(3,[0,1,3,7,15,0,32,127,255,511,0,1024,0,8191,16383],.op 0 (.op 1 (.op 2 (.op 3 (.op 4 (.op 5 (.op 6 (.op 7 (.op 8 (.op 9 (.op 10 (.op 11 (.op 12 (.op 13 (.alt 14 (.done) (.done))))))))))))))))]} (fn:=Tryz.f88) Tryz.func88 (by kernel_rfl) (by kernel_rfl) ?_
 rintro ⟨b0,key0,net0,⟨⟩⟩ K ⟨r,h,hK⟩
 change impl_Block_setNet b0 key0 net0=some r at h
 unfold impl_Block_setNet at h
 conv=>whnf
 intro fp0
 conv=>whnf
 intro fp1
 conv=>whnf
 intro fp2
 conv=>whnf
 refine vIfD h (fun h=>?_) (fun h=>?_)
 conv=>whnf
 refine ⟨by kernel_rfl,?_⟩
 conv=>whnf
 refine vAt h (fun x0 he3a he3b he3x h=>?_)
 conv=>whnf
 refine ⟨by kernel_rfl,?_⟩
 conv=>whnf
 refine ⟨by decide,?_⟩
 conv=>whnf
 refine ⟨he3a,he3b,vAgain he3x ?_⟩
 conv=>whnf
 cases h
 exact hK
 conv=>whnf
 refine ⟨by kernel_rfl,?_⟩
 conv=>whnf
 refine vAt h (fun x0 he4a he4b he4x h=>?_)
 conv=>whnf
 refine ⟨he4a,he4b,vAgain he4x ?_⟩
 conv=>whnf
 intro fp5
 conv=>whnf
 refine vAt h (fun x1 he6a he6b he6x h=>?_)
 conv=>whnf
 refine ⟨by kernel_rfl,?_⟩
 conv=>whnf
 refine ⟨by decide,?_⟩
 conv=>whnf
 refine ⟨he6a,he6b,vAgain he6x ?_⟩
 conv=>whnf
 cases h
 exact hK
theorem w161 (q0:SoundC Tryz.prog 69 c157) (q1:SoundC Tryz.prog 65 c124) (q2:SoundC Tryz.prog 117 c114) (q4:SoundC Tryz.prog 116 c158) (q5:SoundC Tryz.prog 88 c159) (q3:SoundC Tryz.prog 89 c160):SoundC Tryz.prog 67 c161:=by
 refine fn_sound tabC_ok (gam_cons q0 (gam_cons q1 (gam_cons q2 (gam_cons q4 (gam_cons q5 (gam_cons q3 gam_nil)))))) mixed {draws:=[(4,[0,0,2,6,14,0,32,96,224,480,992,2016,4094,8190,16382,32767,65535,0,262143],.op 0 (.op 1 (.op 2 (.op 3 (.op 4 (.op 5 (.op 6 (.op 7 (.op 8 (.op 9 (.alt 10 (.op 11 (.alt 12 (.op 13 (.op 14 (.op 15 (.op 16 (.alt 17 (.alt 18 (.done) (.done)) (.done)))))) (.alt 17 (.alt 12 (.op 13 (.op 14 (.op 15 (.op 16 (.alt 18 (.done) (.done)))))) (.done)) (.done)))) (.alt 17 (.alt 10 (.op 11 (.alt 12 (.op 13 (.op 14 (.op 15 (.op 16 (.alt 18 (.done) (.done)))))) (.done))) (.done)) (.done))))))))))))),(6,[0,0,0,0,8,28,63],.op 0 (.op 2 (.op 3 (.op 4 (.alt 1 (.alt 5 (.alt 6 (.done) (.done)) (.done)) (.alt 5 (.alt 1 (.alt 6 (.done) (.done)) (.done)) (.done))))))),(7,[0,0,0,4,12,28,60,0,252,508,1020,2044,4092,8191],.op 0 (.op 1 (.op 2 (.op 3 (.op 4 (.op 5 (.op 6 (.op 7 (.op 8 (.op 9 (.op 10 (.op 11 (.op 12 (.alt 13 (.done) (.done))))))))))))))),(9,[0,0,2,6,14,30,0,64,192,448,960,1984,4032,8190,16383,32767,65535,131071],.op 0 (.op 1 (.op 2 (.op 3 (.op 4 (.op 5 (.op 6 (.op 7 (.op 8 (.op 9 (.op 10 (.op 11 (.op 12 (.alt 13 (.op 14 (.op 15 (.op 16 (.alt 17 (.done) (.done))))) (.done))))))))))))))),(10,[0,0,2,6,14,0,32,96,224,480,992,2046,4095,8191,16383],.op 0 (.op 1 (.op 2 (.op 3 (.op 4 (.op 5 (.op 6 (.op 7 (.op 8 (.op 9 (.op 10 (.alt 11 (.op 12 (.op 13 (.alt 14 (.done) (.done)))) (.done)))))))))))))]} (fn:=Tryz.f67) Tryz.func67 (by kernel_rfl) (by kernel_rfl) ?_
 rintro ⟨a0,⟨⟩⟩ K ⟨r,h,hK⟩
 change impl_Block_unbuffer a0=some r at h
 unfold impl_Block_unbuffer at h
 conv=>whnf
 intro fp0
 conv=>whnf
 intro fp1
 conv=>whnf
 intro fp2
 conv=>whnf
 refine vBind h (fun nodesOf0 hb3 h=>?_)
 conv=>whnf
 refine vBind h (fun places0 hb4 h=>?_)
 conv=>whnf
 refine ⟨by kernel_rfl,?_⟩
 conv=>whnf
 refine ⟨?_,?_⟩
 conv=>whnf
 refine vBind h (fun string0 hb5 h=>?_)
 conv=>whnf
 refine ⟨?_,?_⟩
 conv=>whnf
 refine vBind h (fun sinks0 hb6 h=>?_)
 conv=>whnf
 refine vAt h (fun x0 he7a he7b he7x h=>?_)
 conv=>whnf
 refine ⟨by kernel_rfl,?_⟩
 conv=>whnf
 refine ⟨he7a,he7b,vAgain he7x ?_⟩
 conv=>whnf
 refine vAt h (fun x1 he8a he8b he8x h=>?_)
 conv=>whnf
 refine ⟨by kernel_rfl,?_⟩
 conv=>whnf
 refine ⟨he8a,he8b,vAgain he8x ?_⟩
 conv=>whnf
 refine ⟨by kernel_rfl,?_⟩
 conv=>whnf
 refine ⟨?_,?_⟩
 conv=>whnf
 refine ⟨by kernel_rfl,?_⟩
 conv=>whnf
 refine vAt h (fun x2 he9a he9b he9x h=>?_)
 conv=>whnf
 refine ⟨he9a,he9b,vAgain he9x ?_⟩
 conv=>whnf
 intro fp10
 conv=>whnf
 refine vAt h (fun x3 he11a he11b he11x h=>?_)
 conv=>whnf
 refine ⟨by kernel_rfl,?_⟩
 conv=>whnf
 refine ⟨he11a,he11b,vAgain he11x ?_⟩
 conv=>whnf
 refine vBind h (fun setNet0 hb12 h=>?_)
 conv=>whnf
 intro fp13
 conv=>whnf
 intro fp14
 conv=>whnf
 intro fp15
 conv=>whnf
 refine ⟨by decide,?_⟩
 conv=>whnf
 refine vPre h (fun hp16 h=>?_)
 conv=>whnf
 refine vPre h (fun hp17 h=>?_)
 conv=>whnf
 intro fp18
 conv=>whnf
 refine ⟨by kernel_rfl,?_⟩
 conv=>whnf
 refine ⟨by decide,?_⟩
 conv=>whnf
 refine vPre h (fun hp19 h=>?_)
 conv=>whnf
 refine vPre h (fun hp20 h=>?_)
 conv=>whnf
 refine ⟨by kernel_rfl,?_⟩
 conv=>whnf
 refine ⟨by decide,?_⟩
 conv=>whnf
 refine vPre h (fun hp21 h=>?_)
 conv=>whnf
 refine vPre h (fun hp22 h=>?_)
 conv=>whnf
 intro fp23
 conv=>whnf
 refine vBind h (fun connect0 hb24 h=>?_)
 conv=>whnf
 intro fp25
 conv=>whnf
 intro fp26
 conv=>whnf
 intro fp27
 conv=>whnf
 cases h
 exact hK
 obtain ⟨x2,he9a,he9b,he9x,h⟩:=atE h
 obtain ⟨x3,he11a,he11b,he11x,h⟩:=atE h
 obtain ⟨setNet0,hb12,h⟩:=Option.bind_eq_some_iff.1 h
 obtain ⟨hp16,h⟩:=guardE h
 obtain ⟨hp17,h⟩:=guardE h
 obtain ⟨hp19,h⟩:=guardE h
 obtain ⟨hp20,h⟩:=guardE h
 obtain ⟨hp21,h⟩:=guardE h
 obtain ⟨hp22,h⟩:=guardE h
 obtain ⟨connect0,hb24,h⟩:=Option.bind_eq_some_iff.1 h
 conv=>whnf
 refine ⟨by kernel_rfl,?_⟩
 conv=>whnf
 refine ⟨he9a,he9b,vAgain he9x ?_⟩
 conv=>whnf
 refine ⟨he9a,he9b,vAgain he9x ?_⟩
 conv=>whnf
 intro fp28
 conv=>whnf
 refine ⟨he11a,he11b,vAgain he11x ?_⟩
 conv=>whnf
 refine ⟨by kernel_rfl,?_⟩
 conv=>whnf
 refine ⟨he11a,he11b,vAgain he11x ?_⟩
 conv=>whnf
 refine ⟨_,hb12,?_⟩
 conv=>whnf
 intro fp29
 conv=>whnf
 intro fp30
 conv=>whnf
 intro fp31
 conv=>whnf
 refine ⟨by decide,?_⟩
 conv=>whnf
 refine ⟨hp16,?_⟩
 conv=>whnf
 refine ⟨hp17,?_⟩
 conv=>whnf
 intro fp32
 conv=>whnf
 refine ⟨by kernel_rfl,?_⟩
 conv=>whnf
 refine ⟨by decide,?_⟩
 conv=>whnf
 refine ⟨hp19,?_⟩
 conv=>whnf
 refine ⟨hp20,?_⟩
 conv=>whnf
 refine ⟨by kernel_rfl,?_⟩
 conv=>whnf
 refine ⟨by decide,?_⟩
 conv=>whnf
 refine ⟨hp21,?_⟩
 conv=>whnf
 refine ⟨hp22,?_⟩
 conv=>whnf
 intro fp33
 conv=>whnf
 refine ⟨_,hb24,?_⟩
 conv=>whnf
 intro fp34
 conv=>whnf
 intro fp35
 conv=>whnf
 intro fp36
 conv=>whnf
 cases h
 exact hK
 obtain ⟨sinks0,hb6,h⟩:=Option.bind_eq_some_iff.1 h
 obtain ⟨x0,he7a,he7b,he7x,h⟩:=atE h
 obtain ⟨x1,he8a,he8b,he8x,h⟩:=atE h
 obtain ⟨x2,he9a,he9b,he9x,h⟩:=atE h
 obtain ⟨x3,he11a,he11b,he11x,h⟩:=atE h
 obtain ⟨setNet0,hb12,h⟩:=Option.bind_eq_some_iff.1 h
 obtain ⟨hp16,h⟩:=guardE h
 obtain ⟨hp17,h⟩:=guardE h
 obtain ⟨hp19,h⟩:=guardE h
 obtain ⟨hp20,h⟩:=guardE h
 obtain ⟨hp21,h⟩:=guardE h
 obtain ⟨hp22,h⟩:=guardE h
 obtain ⟨connect0,hb24,h⟩:=Option.bind_eq_some_iff.1 h
 conv=>whnf
 refine ⟨_,hb6,?_⟩
 conv=>whnf
 refine ⟨he7a,he7b,vAgain he7x ?_⟩
 conv=>whnf
 refine ⟨by kernel_rfl,?_⟩
 conv=>whnf
 refine ⟨he7a,he7b,vAgain he7x ?_⟩
 conv=>whnf
 refine ⟨he8a,he8b,vAgain he8x ?_⟩
 conv=>whnf
 refine ⟨by kernel_rfl,?_⟩
 conv=>whnf
 refine ⟨he8a,he8b,vAgain he8x ?_⟩
 conv=>whnf
 refine ⟨by kernel_rfl,?_⟩
 conv=>whnf
 refine ⟨?_,?_⟩
 conv=>whnf
 refine ⟨by kernel_rfl,?_⟩
 conv=>whnf
 refine ⟨he9a,he9b,vAgain he9x ?_⟩
 conv=>whnf
 refine ⟨he9a,he9b,vAgain he9x ?_⟩
 conv=>whnf
 intro fp37
 conv=>whnf
 refine ⟨he11a,he11b,vAgain he11x ?_⟩
 conv=>whnf
 refine ⟨by kernel_rfl,?_⟩
 conv=>whnf
 refine ⟨he11a,he11b,vAgain he11x ?_⟩
 conv=>whnf
 refine ⟨_,hb12,?_⟩
 conv=>whnf
 intro fp38
 conv=>whnf
 intro fp39
 conv=>whnf
 intro fp40
 conv=>whnf
 refine ⟨by decide,?_⟩
 conv=>whnf
 refine ⟨hp16,?_⟩
 conv=>whnf
 refine ⟨hp17,?_⟩
 conv=>whnf
 intro fp41
 conv=>whnf
 refine ⟨by kernel_rfl,?_⟩
 conv=>whnf
 refine ⟨by decide,?_⟩
 conv=>whnf
 refine ⟨hp19,?_⟩
 conv=>whnf
 refine ⟨hp20,?_⟩
 conv=>whnf
 refine ⟨by kernel_rfl,?_⟩
 conv=>whnf
 refine ⟨by decide,?_⟩
 conv=>whnf
 refine ⟨hp21,?_⟩
 conv=>whnf
 refine ⟨hp22,?_⟩
 conv=>whnf
 intro fp42
 conv=>whnf
 refine ⟨_,hb24,?_⟩
 conv=>whnf
 intro fp43
 conv=>whnf
 intro fp44
 conv=>whnf
 intro fp45
 conv=>whnf
 cases h
 exact hK
 conv=>whnf
 refine ⟨by kernel_rfl,?_⟩
 conv=>whnf
 refine ⟨he9a,he9b,vAgain he9x ?_⟩
 conv=>whnf
 refine ⟨he9a,he9b,vAgain he9x ?_⟩
 conv=>whnf
 intro fp46
 conv=>whnf
 refine ⟨he11a,he11b,vAgain he11x ?_⟩
 conv=>whnf
 refine ⟨by kernel_rfl,?_⟩
 conv=>whnf
 refine ⟨he11a,he11b,vAgain he11x ?_⟩
 conv=>whnf
 refine ⟨_,hb12,?_⟩
 conv=>whnf
 intro fp47
 conv=>whnf
 intro fp48
 conv=>whnf
 intro fp49
 conv=>whnf
 refine ⟨by decide,?_⟩
 conv=>whnf
 refine ⟨hp16,?_⟩
 conv=>whnf
 refine ⟨hp17,?_⟩
 conv=>whnf
 intro fp50
 conv=>whnf
 refine ⟨by kernel_rfl,?_⟩
 conv=>whnf
 refine ⟨by decide,?_⟩
 conv=>whnf
 refine ⟨hp19,?_⟩
 conv=>whnf
 refine ⟨hp20,?_⟩
 conv=>whnf
 refine ⟨by kernel_rfl,?_⟩
 conv=>whnf
 refine ⟨by decide,?_⟩
 conv=>whnf
 refine ⟨hp21,?_⟩
 conv=>whnf
 refine ⟨hp22,?_⟩
 conv=>whnf
 intro fp51
 conv=>whnf
 refine ⟨_,hb24,?_⟩
 conv=>whnf
 intro fp52
 conv=>whnf
 intro fp53
 conv=>whnf
 intro fp54
 conv=>whnf
 cases h
 exact hK
 obtain ⟨string0,hb5,h⟩:=Option.bind_eq_some_iff.1 h
 obtain ⟨sinks0,hb6,h⟩:=Option.bind_eq_some_iff.1 h
 obtain ⟨x0,he7a,he7b,he7x,h⟩:=atE h
 obtain ⟨x1,he8a,he8b,he8x,h⟩:=atE h
 obtain ⟨x2,he9a,he9b,he9x,h⟩:=atE h
 obtain ⟨x3,he11a,he11b,he11x,h⟩:=atE h
 obtain ⟨setNet0,hb12,h⟩:=Option.bind_eq_some_iff.1 h
 obtain ⟨hp16,h⟩:=guardE h
 obtain ⟨hp17,h⟩:=guardE h
 obtain ⟨hp19,h⟩:=guardE h
 obtain ⟨hp20,h⟩:=guardE h
 obtain ⟨hp21,h⟩:=guardE h
 obtain ⟨hp22,h⟩:=guardE h
 obtain ⟨connect0,hb24,h⟩:=Option.bind_eq_some_iff.1 h
 conv=>whnf
 refine ⟨_,hb5,?_⟩
 conv=>whnf
 refine ⟨_,hb6,?_⟩
 conv=>whnf
 refine ⟨he7a,he7b,vAgain he7x ?_⟩
 conv=>whnf
 refine ⟨by kernel_rfl,?_⟩
 conv=>whnf
 refine ⟨he7a,he7b,vAgain he7x ?_⟩
 conv=>whnf
 refine ⟨he8a,he8b,vAgain he8x ?_⟩
 conv=>whnf
 refine ⟨by kernel_rfl,?_⟩
 conv=>whnf
 refine ⟨he8a,he8b,vAgain he8x ?_⟩
 conv=>whnf
 refine ⟨by kernel_rfl,?_⟩
 conv=>whnf
 refine ⟨?_,?_⟩
 conv=>whnf
 refine ⟨by kernel_rfl,?_⟩
 conv=>whnf
 refine ⟨he9a,he9b,vAgain he9x ?_⟩
 conv=>whnf
 refine ⟨he9a,he9b,vAgain he9x ?_⟩
 conv=>whnf
 intro fp55
 conv=>whnf
 refine ⟨he11a,he11b,vAgain he11x ?_⟩
 conv=>whnf
 refine ⟨by kernel_rfl,?_⟩
 conv=>whnf
 refine ⟨he11a,he11b,vAgain he11x ?_⟩
 conv=>whnf
 refine ⟨_,hb12,?_⟩
 conv=>whnf
 intro fp56
 conv=>whnf
 intro fp57
 conv=>whnf
 intro fp58
 conv=>whnf
 refine ⟨by decide,?_⟩
 conv=>whnf
 refine ⟨hp16,?_⟩
 conv=>whnf
 refine ⟨hp17,?_⟩
 conv=>whnf
 intro fp59
 conv=>whnf
 refine ⟨by kernel_rfl,?_⟩
 conv=>whnf
 refine ⟨by decide,?_⟩
 conv=>whnf
 refine ⟨hp19,?_⟩
 conv=>whnf
 refine ⟨hp20,?_⟩
 conv=>whnf
 refine ⟨by kernel_rfl,?_⟩
 conv=>whnf
 refine ⟨by decide,?_⟩
 conv=>whnf
 refine ⟨hp21,?_⟩
 conv=>whnf
 refine ⟨hp22,?_⟩
 conv=>whnf
 intro fp60
 conv=>whnf
 refine ⟨_,hb24,?_⟩
 conv=>whnf
 intro fp61
 conv=>whnf
 intro fp62
 conv=>whnf
 intro fp63
 conv=>whnf
 cases h
 exact hK
 conv=>whnf
 refine ⟨by kernel_rfl,?_⟩
 conv=>whnf
 refine ⟨he9a,he9b,vAgain he9x ?_⟩
 conv=>whnf
 refine ⟨he9a,he9b,vAgain he9x ?_⟩
 conv=>whnf
 intro fp64
 conv=>whnf
 refine ⟨he11a,he11b,vAgain he11x ?_⟩
 conv=>whnf
 refine ⟨by kernel_rfl,?_⟩
 conv=>whnf
 refine ⟨he11a,he11b,vAgain he11x ?_⟩
 conv=>whnf
 refine ⟨_,hb12,?_⟩
 conv=>whnf
 intro fp65
 conv=>whnf
 intro fp66
 conv=>whnf
 intro fp67
 conv=>whnf
 refine ⟨by decide,?_⟩
 conv=>whnf
 refine ⟨hp16,?_⟩
 conv=>whnf
 refine ⟨hp17,?_⟩
 conv=>whnf
 intro fp68
 conv=>whnf
 refine ⟨by kernel_rfl,?_⟩
 conv=>whnf
 refine ⟨by decide,?_⟩
 conv=>whnf
 refine ⟨hp19,?_⟩
 conv=>whnf
 refine ⟨hp20,?_⟩
 conv=>whnf
 refine ⟨by kernel_rfl,?_⟩
 conv=>whnf
 refine ⟨by decide,?_⟩
 conv=>whnf
 refine ⟨hp21,?_⟩
 conv=>whnf
 refine ⟨hp22,?_⟩
 conv=>whnf
 intro fp69
 conv=>whnf
 refine ⟨_,hb24,?_⟩
 conv=>whnf
 intro fp70
 conv=>whnf
 intro fp71
 conv=>whnf
 intro fp72
 conv=>whnf
 cases h
 exact hK
theorem w104 (q1:SoundC Tryz.prog 220 c100) (q0:SoundC Tryz.prog 221 c103):SoundC Tryz.prog 201 c104:=by
 refine fn_sound tab_ok (gam_cons q1 (gam_cons q0 gam_nil)) mixed {loops:=[(0,[.reg 8 (.dat (.int .i64))])]} (fn:=Tryz.f201) Tryz.func201 (by kernel_rfl) (by kernel_rfl) ?_
 rintro ⟨c0,⟨⟩⟩ K ⟨r,h,hK⟩
 change impl_Cell_areArcs c0=some r at h
 unfold impl_Cell_areArcs at h
 conv=>whnf
 refine vLoop h ?_
 rintro I0 μ0 ⟨v0,⟨⟩⟩ zs0 h hI0 hR0
 change impl_Cell_areArcs_loop0 c0 v0=some zs0 at h
 unfold impl_Cell_areArcs_loop0 at h
 conv=>whnf
 refine vIfD h (fun h=>?_) (fun h=>?_)
 conv=>whnf
 refine vAt h (fun x0 he1a he1b he1x h=>?_)
 conv=>whnf
 refine vBind h (fun isArc0 hb2 h=>?_)
 conv=>whnf
 refine vNot ?_
 refine vIfB h (fun h=>?_) (fun h=>?_)
 conv=>whnf
 refine ⟨by decide,?_⟩
 conv=>whnf
 refine vPre h (fun hp3 h=>?_)
 conv=>whnf
 refine vPre h (fun hp4 h=>?_)
 conv=>whnf
 refine vBind h (fun c1_0 hb5 h=>?_)
 conv=>whnf
 refine vIfB h (fun h=>?_) (fun h=>?_)
 conv=>whnf
 cases h
 obtain rfl:=hR0 _ rfl
 exact hK
 conv=>whnf
 cases h
 exact ⟨⟨rfl,rfl⟩,hI0 _ rfl⟩
 conv=>whnf
 cases h
 obtain rfl:=hR0 _ rfl
 exact hK
 conv=>whnf
 cases h
 obtain rfl:=hR0 _ rfl
 exact hK
theorem w100 (q4:SoundC Tryz.prog 232 c81) (q3:SoundC Tryz.prog 233 c94) (q2:SoundC Tryz.prog 234 c97) (q0:SoundC Tryz.prog 235 c99) (q1:SoundC Tryz.prog 223 c98) (q5:SoundC Tryz.prog 149 c74):SoundC Tryz.prog 220 c100:=by
 refine fn_sound tab_ok (gam_cons q4 (gam_cons q3 (gam_cons q2 (gam_cons q0 (gam_cons q1 (gam_cons q5 gam_nil)))))) mixed {draws:=[(2,[0,1,3,7,15,31,63,127,255,511,1023,2047,4095,8191,16383,32767,65535,32767,163839,524287,1048575,2097151,4194303,8388607,16777215,33554431,67108863,134217727,134217727,402653183,1073741823,2147483647,4294967295,8589934591,17179869183,8589934591,42949672959,137438953471,274877906943,549755813887],.op 0 (.op 1 (.op 2 (.op 3 (.op 4 (.op 5 (.op 6 (.op 7 (.op 8 (.op 9 (.op 10 (.op 11 (.alt 12 (.op 13 (.op 14 (.op 15 (.op 16 (.op 17 (.alt 18 (.op 19 (.op 20 (.op 21 (.op 22 (.op 23 (.op 24 (.op 25 (.op 26 (.op 27 (.op 28 (.op 29 (.alt 30 (.op 31 (.op 32 (.op 33 (.op 34 (.op 35 (.op 36 (.op 37 (.op 38 (.op 39 (.done)))))))))) (.done))))))))))))) (.done))))))) (.done)))))))))))))),(3,[0,1,3,7,15,31,63,127,255,511,1023,2047,4095,2047,10239,32767,65535,131071,262143,262143,786431,2097151,4194303,8388607],.op 0 (.op 1 (.alt 2 (.op 3 (.op 4 (.op 5 (.op 6 (.alt 7 (.op 8 (.op 9 (.op 10 (.op 11 (.op 12 (.op 13 (.alt 14 (.op 15 (.op 16 (.op 17 (.op 18 (.op 19 (.op 20 (.alt 21 (.op 22 (.op 23 (.done))) (.done)))))))) (.done)))))))) (.done)))))) (.done))))]} (fn:=Tryz.f220) Tryz.func220 (by kernel_rfl) (by kernel_rfl) ?_
 rintro ⟨a0,a1,⟨⟩⟩ K ⟨r,h,hK⟩
 change impl_Cell_isArc a0 a1=some r at h
 unfold impl_Cell_isArc at h
 conv=>whnf
 refine vBind h (fun isCheck0 hb0 h=>?_)
 conv=>whnf
 refine vIfB h (fun h=>?_) (fun h=>?_)
 conv=>whnf
 refine ⟨by kernel_rfl,?_⟩
 conv=>whnf
 refine vIfD h (fun h=>?_) (fun h=>?_)
 conv=>whnf
 refine vIfD h (fun h=>?_) (fun h=>?_)
 conv=>whnf
 refine vBind h (fun areTables0 hb1 h=>?_)
 conv=>whnf
 refine vIfB h (fun h=>?_) (fun h=>?_)
 conv=>whnf
 refine vBind h (fun clock0 hb2 h=>?_)
 conv=>whnf
 refine vIfD h (fun h=>?_) (fun h=>?_)
 conv=>whnf
 refine vIfD h (fun h=>?_) (fun h=>?_)
 conv=>whnf
 refine vBind h (fun isInput0 hb3 h=>?_)
 conv=>whnf
 refine vIfB h (fun h=>?_) (fun h=>?_)
 conv=>whnf
 cases h
 exact hK
 conv=>whnf
 cases h
 exact hK
 conv=>whnf
 cases h
 exact hK
 conv=>whnf
 cases h
 exact hK
 conv=>whnf
 cases h
 exact hK
 conv=>whnf
 cases h
 exact hK
 conv=>whnf
 cases h
 exact hK
 conv=>whnf
 refine ⟨by kernel_rfl,?_⟩
 conv=>whnf
 refine vBind h (fun areTables0 hb4 h=>?_)
 conv=>whnf
 refine vNot ?_
 refine vIfB h (fun h=>?_) (fun h=>?_)
 conv=>whnf
 refine vBind h (fun areTables1 hb5 h=>?_)
 conv=>whnf
 refine vNot ?_
 refine vIfB h (fun h=>?_) (fun h=>?_)
 conv=>whnf
 refine vBind h (fun output0 hb6 h=>?_)
 conv=>whnf
 refine vNot ?_
 refine vIfD h (fun h=>?_) (fun h=>?_)
 conv=>whnf
 refine vBind h (fun isInput0 hb7 h=>?_)
 conv=>whnf
 refine vNots ?_
 refine vIfB h (fun h=>?_) (fun h=>?_)
 conv=>whnf
 refine vIfD h (fun h=>?_) (fun h=>?_)
 conv=>whnf
 refine vAt h (fun x0 he8a he8b he8x h=>?_)
 conv=>whnf
 refine vNots ?_
 refine vIfB h (fun h=>?_) (fun h=>?_)
 conv=>whnf
 cases h
 exact hK
 conv=>whnf
 refine vBind h (fun within0 hb9 h=>?_)
 conv=>whnf
 cases h
 exact hK
 conv=>whnf
 refine vIfD h (fun h=>?_) (fun h=>?_)
 conv=>whnf
 refine vIfD h (fun h=>?_) (fun h=>?_)
 conv=>whnf
 refine vAt h (fun x0 he10a he10b he10x h=>?_)
 conv=>whnf
 refine vIfB h (fun h=>?_) (fun h=>?_)
 conv=>whnf
 cases h
 exact hK
 conv=>whnf
 cases h
 exact hK
 conv=>whnf
 cases h
 exact hK
 conv=>whnf
 refine vIfD h (fun h=>?_) (fun h=>?_)
 conv=>whnf
 refine vAt h (fun x0 he11a he11b he11x h=>?_)
 conv=>whnf
 refine vIfB h (fun h=>?_) (fun h=>?_)
 conv=>whnf
 cases h
 exact hK
 conv=>whnf
 cases h
 exact hK
 conv=>whnf
 cases h
 exact hK
 conv=>whnf
 cases h
 exact hK
 conv=>whnf
 cases h
 exact hK
 conv=>whnf
 cases h
 exact hK
 conv=>whnf
 cases h
 exact hK
theorem w109 (q0:SoundC Tryz.prog 223 c98) (q1:SoundC Tryz.prog 151 c86) (q2:SoundC Tryz.prog 224 c108):SoundC Tryz.prog 202 c109:=by
 refine fn_sound tab_ok (gam_cons q0 (gam_cons q1 (gam_cons q2 gam_nil))) mixed {loops:=[(0,[.reg 3 (.dat (.int .i64)),.reg 9 (.dat (.int .i64))])],draws:=[(10,[0,1,3,7,15,31,7,71,199,511,1023,2047,4095,8191,16383,32767,65535],.op 0 (.op 1 (.op 2 (.op 3 (.op 4 (.op 5 (.op 6 (.alt 7 (.op 8 (.op 9 (.op 10 (.op 11 (.op 12 (.op 13 (.alt 14 (.op 15 (.op 16 (.done))) (.done)))))))) (.done))))))))),(12,[0,1,3,7,15,31,63,127,255,511,1023,2047,4095,8191,16383,32767,16383,131071,262143,524287,1048575],.op 0 (.op 1 (.op 2 (.op 3 (.op 4 (.op 5 (.op 6 (.op 7 (.op 8 (.op 9 (.alt 10 (.op 11 (.op 12 (.op 13 (.op 14 (.op 16 (.alt 15 (.alt 17 (.op 18 (.op 19 (.op 20 (.done)))) (.done)) (.done))))))) (.done))))))))))))]} (fn:=Tryz.f202) Tryz.func202 (by kernel_rfl) (by kernel_rfl) ?_
 rintro ⟨a0,⟨⟩⟩ K ⟨r,h,hK⟩
 change impl_Cell_isOfKind a0=some r at h
 unfold impl_Cell_isOfKind at h
 conv=>whnf
 refine vLoop h ?_
 rintro I0 μ0 ⟨v0,v1,⟨⟩⟩ zs0 h hI0 hR0
 change impl_Cell_isOfKind_loop0 a0 v0 v1=some zs0 at h
 unfold impl_Cell_isOfKind_loop0 at h
 conv=>whnf
 refine vIfD h (fun h=>?_) (fun h=>?_)
 conv=>whnf
 refine vAt h (fun x0 he1a he1b he1x h=>?_)
 conv=>whnf
 refine vIfB h (fun h=>?_) (fun h=>?_)
 conv=>whnf
 cases h
 exact ⟨⟨rfl,rfl⟩,hI0 _ rfl⟩
 conv=>whnf
 cases h
 exact ⟨⟨rfl,rfl⟩,hI0 _ rfl⟩
 conv=>whnf
 refine vIfD h (fun h=>?_) (fun h=>?_)
 conv=>whnf
 refine ⟨by kernel_rfl,?_⟩
 conv=>whnf
 refine vIfD h (fun h=>?_) (fun h=>?_)
 conv=>whnf
 refine vBind h (fun output0 hb2 h=>?_)
 conv=>whnf
 refine vPre h (fun hp3 h=>?_)
 conv=>whnf
 refine vIfD h (fun h=>?_) (fun h=>?_)
 conv=>whnf
 refine vBind h (fun areWithin0 hb4 h=>?_)
 conv=>whnf
 cases h
 obtain rfl:=hR0 _ rfl
 exact hK
 conv=>whnf
 cases h
 obtain rfl:=hR0 _ rfl
 exact hK
 conv=>whnf
 cases h
 obtain rfl:=hR0 _ rfl
 exact hK
 conv=>whnf
 refine vIfD h (fun h=>?_) (fun h=>?_)
 conv=>whnf
 refine ⟨by kernel_rfl,?_⟩
 conv=>whnf
 refine vIfD h (fun h=>?_) (fun h=>?_)
 conv=>whnf
 refine vIfD h (fun h=>?_) (fun h=>?_)
 conv=>whnf
 refine vBind h (fun has0 hb5 h=>?_)
 conv=>whnf
 refine vNots ?_
 refine vIfB h (fun h=>?_) (fun h=>?_)
 conv=>whnf
 cases h
 obtain rfl:=hR0 _ rfl
 exact hK
 conv=>whnf
 refine vBind h (fun has1 hb6 h=>?_)
 conv=>whnf
 refine vBind h (fun has2 hb7 h=>?_)
 conv=>whnf
 cases h
 obtain rfl:=hR0 _ rfl
 exact hK
 conv=>whnf
 cases h
 obtain rfl:=hR0 _ rfl
 exact hK
 conv=>whnf
 cases h
 obtain rfl:=hR0 _ rfl
 exact hK
 conv=>whnf
 refine vIfD h (fun h=>?_) (fun h=>?_)
 conv=>whnf
 refine vIfD h (fun h=>?_) (fun h=>?_)
 conv=>whnf
 refine vIfD h (fun h=>?_) (fun h=>?_)
 conv=>whnf
 refine vBind h (fun has0 hb8 h=>?_)
 conv=>whnf
 refine vIfB h (fun h=>?_) (fun h=>?_)
 conv=>whnf
 refine vBind h (fun has1 hb9 h=>?_)
 conv=>whnf
 refine vIfB h (fun h=>?_) (fun h=>?_)
 conv=>whnf
 refine vBind h (fun has2 hb10 h=>?_)
 conv=>whnf
 cases h
 obtain rfl:=hR0 _ rfl
 exact hK
 conv=>whnf
 cases h
 obtain rfl:=hR0 _ rfl
 exact hK
 conv=>whnf
 cases h
 obtain rfl:=hR0 _ rfl
 exact hK
 conv=>whnf
 cases h
 obtain rfl:=hR0 _ rfl
 exact hK
 conv=>whnf
 cases h
 obtain rfl:=hR0 _ rfl
 exact hK
 conv=>whnf
 cases h
 obtain rfl:=hR0 _ rfl
 exact hK
theorem w115 (q0:SoundC Tryz.prog 117 c114) (q1:SoundC Tryz.prog 149 c74):SoundC Tryz.prog 145 c115:=by
 refine fn_sound tab_ok (gam_cons q0 (gam_cons q1 gam_nil)) mixed {} (fn:=Tryz.f145) Tryz.func145 (by kernel_rfl) (by kernel_rfl) ?_
 rintro ⟨d0,net0,⟨⟩⟩ K ⟨r,h,hK⟩
 change impl_Design_isNet d0 net0=some r at h
 unfold impl_Design_isNet at h
 conv=>whnf
 refine vBind h (fun string0 hb0 h=>?_)
 conv=>whnf
 refine vBind h (fun within0 hb1 h=>?_)
 conv=>whnf
 cases h
 exact hK
theorem w158 (q0:SoundC Tryz.prog 65 c124):SoundC Tryz.prog 116 c158:=by
 refine fn_sound tab_ok (gam_cons q0 gam_nil) mixed {loops:=[(0,[.reg 5 (.own (.ol 2 (.flat (.int .i64)))),.reg 11 (.dat (.int .i64))])]} (fn:=Tryz.f116) Tryz.func116 (by kernel_rfl) (by kernel_rfl) ?_
 rintro ⟨d0,net0,⟨⟩⟩ K ⟨r,h,hK⟩
 change impl_Design_sinks d0 net0=some r at h
 unfold impl_Design_sinks at h
 conv=>whnf
 refine vBind h (fun places0 hb0 h=>?_)
 conv=>whnf
 refine vLoop h ?_
 rintro I1 μ1 ⟨list0,v0,⟨⟩⟩ zs1 h hI1 hR1
 change impl_Design_sinks_loop0 net0 places0 list0 v0=some zs1 at h
 unfold impl_Design_sinks_loop0 at h
 conv=>whnf
 refine vIfD h (fun h=>?_) (fun h=>?_)
 conv=>whnf
 refine vAt h (fun x0 he2a he2b he2x h=>?_)
 conv=>whnf
 refine ⟨by kernel_rfl,?_⟩
 conv=>whnf
 refine ⟨he2a,he2b,vAgain he2x ?_⟩
 conv=>whnf
 refine vIfD h (fun h=>?_) (fun h=>?_)
 conv=>whnf
 refine vNots ?_
 refine vIfB h (fun h=>?_) (fun h=>?_)
 conv=>whnf
 cases h
 exact ⟨⟨rfl,rfl⟩,hI1 _ rfl⟩
 conv=>whnf
 refine vPre h (fun hp3 h=>?_)
 conv=>whnf
 cases h
 exact ⟨⟨rfl,rfl⟩,hI1 _ rfl⟩
 conv=>whnf
 cases h
 exact ⟨⟨rfl,rfl⟩,hI1 _ rfl⟩
 conv=>whnf
 cases h
 obtain rfl:=hR1 _ rfl
 exact hK
theorem w138:SoundC Tryz.prog 190 c138:=by
 refine fn_sound tab_ok gam_nil mixed {} (fn:=Tryz.f190) Tryz.func190 (by kernel_rfl) (by kernel_rfl) ?_
 rintro ⟨x0,a0,⟨⟩⟩ K ⟨r,h,hK⟩
 change impl_InstanceNamed_c1 x0 a0=some r at h
 unfold impl_InstanceNamed_c1 at h
 conv=>whnf
 cases h
 exact hK
theorem w94 (q0:SoundC Tryz.prog 242 c93):SoundC Tryz.prog 233 c94:=by
 refine fn_sound tab_ok (gam_cons q0 gam_nil) mixed {} (fn:=Tryz.f233) Tryz.func233 (by kernel_rfl) (by kernel_rfl) ?_
 rintro ⟨list0,positive0,⟨⟩⟩ K ⟨r,h,hK⟩
 change impl_areTables list0 positive0=some r at h
 unfold impl_areTables at h
 conv=>whnf
 refine vIfD h (fun h=>?_) (fun h=>?_)
 conv=>whnf
 refine vBind h (fun c1_0 hb0 h=>?_)
 conv=>whnf
 cases h
 exact hK
 conv=>whnf
 cases h
 exact hK
theorem w134:SoundC Tryz.prog 186 c134:=by
 refine fn_sound tab_ok gam_nil mixed {} (fn:=Tryz.f186) Tryz.func186 (by kernel_rfl) (by kernel_rfl) ?_
 rintro ⟨p0,q0,⟨⟩⟩ K ⟨r,h,hK⟩
 change impl_fitsSwap_c1 p0 q0=some r at h
 unfold impl_fitsSwap_c1 at h
 conv=>whnf
 cases h
 exact hK
theorem w88 (q0:SoundC Tryz.prog 148 c82) (q3:SoundC Tryz.prog 149 c74) (q2:SoundC Tryz.prog 151 c86) (q1:SoundC Tryz.prog 254 c87):SoundC Tryz.prog 253 c88:=by
 refine fn_sound tab_ok (gam_cons q0 (gam_cons q3 (gam_cons q2 (gam_cons q1 gam_nil)))) mixed {} (fn:=Tryz.f253) Tryz.func253 (by kernel_rfl) (by kernel_rfl) ?_
 rintro ⟨list0,⟨⟩⟩ K ⟨r,h,hK⟩
 change impl_isAxis list0=some r at h
 unfold impl_isAxis at h
 conv=>whnf
 refine vBind h (fun int64_0 hb0 h=>?_)
 conv=>whnf
 refine vBind h (fun within0 hb1 h=>?_)
 conv=>whnf
 refine vIfB h (fun h=>?_) (fun h=>?_)
 conv=>whnf
 refine vBind h (fun areWithin0 hb2 h=>?_)
 conv=>whnf
 refine vIfB h (fun h=>?_) (fun h=>?_)
 conv=>whnf
 refine vBind h (fun isIncreasing0 hb3 h=>?_)
 conv=>whnf
 cases h
 exact hK
 conv=>whnf
 cases h
 exact hK
 conv=>whnf
 cases h
 exact hK
theorem w81:SoundC Tryz.prog 232 c81:=by
 refine fn_sound tab_ok gam_nil mixed {} (fn:=Tryz.f232) Tryz.func232 (by kernel_rfl) (by kernel_rfl) ?_
 rintro ⟨kind0,⟨⟩⟩ K ⟨r,h,hK⟩
 change impl_isCheck kind0=some r at h
 unfold impl_isCheck at h
 conv=>whnf
 refine vIfDs h (fun h=>?_) (fun h=>?_)
 conv=>whnf
 cases h
 exact hK
 conv=>whnf
 cases h
 exact hK
theorem w176 (q1:SoundC Tryz.prog 168 c171) (q2:SoundC Tryz.prog 169 c175) (q0:SoundC Tryz.prog 71 c167):SoundC Tryz.prog 121 c176:=by
 refine fn_sound tab_ok (gam_cons q1 (gam_cons q2 (gam_cons q0 gam_nil))) mixed {} (fn:=Tryz.f121) Tryz.func121 (by kernel_rfl) (by kernel_rfl) ?_
 rintro ⟨a0,b0,⟨⟩⟩ K ⟨r,h,hK⟩
 change laws_eqCell a0 b0=some r at h
 unfold laws_eqCell at h
 conv=>whnf
 refine vNots ?_
 refine vIfD h (fun h=>?_) (fun h=>?_)
 conv=>whnf
 refine vNots ?_
 refine vIfD h (fun h=>?_) (fun h=>?_)
 conv=>whnf
 refine vBind h (fun eqPinS0 hb0 h=>?_)
 conv=>whnf
 refine vNots ?_
 refine vIfB h (fun h=>?_) (fun h=>?_)
 conv=>whnf
 refine vBind h (fun eqArcS0 hb1 h=>?_)
 conv=>whnf
 refine vNots ?_
 refine vIfB h (fun h=>?_) (fun h=>?_)
 conv=>whnf
 refine vBind h (fun eqInt64S0 hb2 h=>?_)
 conv=>whnf
 refine vNots ?_
 refine vIfB h (fun h=>?_) (fun h=>?_)
 conv=>whnf
 refine vNots ?_
 refine vIfD h (fun h=>?_) (fun h=>?_)
 conv=>whnf
 refine vNots ?_
 refine vIfD h (fun h=>?_) (fun h=>?_)
 conv=>whnf
 cases h
 exact hK
 conv=>whnf
 cases h
 exact hK
 conv=>whnf
 cases h
 exact hK
 conv=>whnf
 cases h
 exact hK
 conv=>whnf
 cases h
 exact hK
 conv=>whnf
 cases h
 exact hK
 conv=>whnf
 cases h
 exact hK
 conv=>whnf
 cases h
 exact hK
theorem w172 (q0:SoundC Tryz.prog 71 c167):SoundC Tryz.prog 230 c172:=by
 refine fn_sound tab_ok (gam_cons q0 gam_nil) mixed {} (fn:=Tryz.f230) Tryz.func230 (by kernel_rfl) (by kernel_rfl) ?_
 rintro ⟨a0,b0,⟨⟩⟩ K ⟨r,h,hK⟩
 change laws_eqTable a0 b0=some r at h
 unfold laws_eqTable at h
 conv=>whnf
 refine vBind h (fun eqInt64S0 hb0 h=>?_)
 conv=>whnf
 refine vNots ?_
 refine vIfB h (fun h=>?_) (fun h=>?_)
 conv=>whnf
 refine vBind h (fun eqInt64S1 hb1 h=>?_)
 conv=>whnf
 refine vNots ?_
 refine vIfB h (fun h=>?_) (fun h=>?_)
 conv=>whnf
 refine vBind h (fun eqInt64S2 hb2 h=>?_)
 conv=>whnf
 refine vNots ?_
 refine vIfB h (fun h=>?_) (fun h=>?_)
 conv=>whnf
 cases h
 exact hK
 conv=>whnf
 cases h
 exact hK
 conv=>whnf
 cases h
 exact hK
 conv=>whnf
 cases h
 exact hK
theorem w173 (q0:SoundC Tryz.prog 230 c172):SoundC Tryz.prog 214 c173:=by
 refine fn_sound tab_ok (gam_cons q0 gam_nil) mixed {loops:=[(0,[.reg 5 (.dat (.int .i64))])],draws:=[(6,[0,0,3,7,0,0,48,112,255,511],.op 0 (.op 1 (.op 2 (.op 3 (.op 4 (.op 5 (.op 6 (.op 7 (.alt 8 (.op 9 (.done)) (.done))))))))))]} (fn:=Tryz.f214) Tryz.func214 (by kernel_rfl) (by kernel_rfl) ?_
 rintro ⟨a0,b0,⟨⟩⟩ K ⟨r,h,hK⟩
 change laws_eqTableS a0 b0=some r at h
 unfold laws_eqTableS at h
 conv=>whnf
 refine vNots ?_
 refine vIfD h (fun h=>?_) (fun h=>?_)
 conv=>whnf
 refine vLoop h ?_
 rintro I0 μ0 ⟨i0,⟨⟩⟩ zs0 h hI0 hR0
 change laws_eqTableS_loop0 a0 b0 i0=some zs0 at h
 unfold laws_eqTableS_loop0 at h
 conv=>whnf
 refine vIfD h (fun h=>?_) (fun h=>?_)
 conv=>whnf
 refine ⟨by kernel_rfl,?_⟩
 conv=>whnf
 refine vAt h (fun x0 he1a he1b he1x h=>?_)
 conv=>whnf
 refine vAt h (fun x1 he2a he2b he2x h=>?_)
 conv=>whnf
 refine vBind h (fun eqTable0 hb3 h=>?_)
 conv=>whnf
 refine vNots ?_
 refine vIfB h (fun h=>?_) (fun h=>?_)
 conv=>whnf
 cases h
 exact ⟨⟨rfl,rfl⟩,hI0 _ rfl⟩
 conv=>whnf
 cases h
 obtain rfl:=hR0 _ rfl
 exact hK
 conv=>whnf
 cases h
 obtain rfl:=hR0 _ rfl
 exact hK
 conv=>whnf
 cases h
 exact hK
theorem w204 (q0:SoundC Tryz.prog 39 c203):SoundC Tryz.prog 15 c204:=by
 refine fn_sound tab_ok (gam_cons q0 gam_nil) mixed {} (fn:=Tryz.f15) Tryz.func15 (by kernel_rfl) (by kernel_rfl) ?_
 rintro ⟨a0,k0,⟨⟩⟩ K ⟨r,h,hK⟩
 change laws_heldEdit a0 k0=some r at h
 unfold laws_heldEdit at h
 conv=>whnf
 refine vBind h (fun heldWire0 hb0 h=>?_)
 conv=>whnf
 refine vIfD h (fun h=>?_) (fun h=>?_)
 conv=>whnf
 cases h
 exact hK
 conv=>whnf
 cases h
 exact hK
theorem w197 (q0:SoundC Tryz.prog 77 c194) (q1:SoundC Tryz.prog 78 c195) (q2:SoundC Tryz.prog 79 c196):SoundC Tryz.prog 36 c197:=by
 refine fn_sound tabD_ok (gam_cons q0 (gam_cons q1 (gam_cons q2 gam_nil))) mixed {} (fn:=Tryz.f36) Tryz.func36 (by kernel_rfl) (by kernel_rfl) ?_
 rintro ⟨a0,k0,⟨⟩⟩ K ⟨r,h,hK⟩
 change laws_markDesign a0 k0=some r at h
 unfold laws_markDesign at h
 conv=>whnf
 intro fp0
 conv=>whnf
 refine vBind h (fun markInstanceS0 hb1 h=>?_)
 conv=>whnf
 intro fp2
 conv=>whnf
 refine vBind h (fun markStringS0 hb3 h=>?_)
 conv=>whnf
 refine vBind h (fun markPortS0 hb4 h=>?_)
 conv=>whnf
 cases h
 exact hK
theorem w201 (q0:SoundC Tryz.prog 38 c200):SoundC Tryz.prog 14 c201:=by
 refine fn_sound tabD_ok (gam_cons q0 gam_nil) mixed {} (fn:=Tryz.f14) Tryz.func14 (by kernel_rfl) (by kernel_rfl) ?_
 rintro ⟨a0,k0,⟨⟩⟩ K ⟨r,h,hK⟩
 change laws_markEdit a0 k0=some r at h
 unfold laws_markEdit at h
 conv=>whnf
 refine vBind h (fun markWire0 hb0 h=>?_)
 conv=>whnf
 cases h
 exact hK
theorem w194 (q1:SoundC Tryz.prog 124 c187) (q0:SoundC Tryz.prog 80 c189):SoundC Tryz.prog 77 c194:=by
 refine fn_sound tabD_ok (gam_cons q1 (gam_cons q0 gam_nil)) mixed {loops:=[(0,[.reg 1 (.dat (.int .i64)),.reg 5 (.dat (.int .i64)),.ent 0 (nat_lit 96) (Dp.pair (Dp.flat Ty.str) (Dp.pair (Dp.flat (Ty.int IntKind.i64)) (Dp.pair (Dp.ol (2:Go.TypeId) (Dp.flat (Ty.int IntKind.i64))) (Dp.flat Ty.unit))))])]} (fn:=Tryz.f77) Tryz.func77 (by kernel_rfl) (by kernel_rfl) ?_
 rintro ⟨a0,k0,⟨⟩⟩ K ⟨r,h,hK⟩
 change laws_markInstanceS a0 k0=some r at h
 unfold laws_markInstanceS at h
 conv=>whnf
 intro fp0
 conv=>whnf
 refine vLoop h ?_
 rintro I1 μ1 ⟨k1,i0,l0,⟨⟩⟩ zs1 h hI1 hR1
 change laws_markInstanceS_loop0 k1 i0 l0=some zs1 at h
 unfold laws_markInstanceS_loop0 at h
 conv=>whnf
 intro fp2
 conv=>whnf
 refine vIfD h (fun h=>?_) (fun h=>?_)
 conv=>whnf
 refine vBind h (fun markText0 hb3 h=>?_)
 conv=>whnf
 refine vAt h (fun x0 he4a he4b he4x h=>?_)
 conv=>whnf
 refine ⟨he4a,he4b,vAgain he4x ?_⟩
 conv=>whnf
 intro fp5
 conv=>whnf
 refine ⟨he4a,he4b,vAgain he4x ?_⟩
 conv=>whnf
 refine .inl ⟨rfl,?_⟩
 conv=>whnf
 refine ⟨he4a,he4b,vAgain he4x ?_⟩
 conv=>whnf
 refine .inl ⟨rfl,?_⟩
 conv=>whnf
 refine vBind h (fun markInt64S0 hb6 h=>?_)
 conv=>whnf
 cases h
 exact ⟨⟨rfl,rfl⟩,hI1 _ rfl⟩
 conv=>whnf
 cases h
 obtain rfl:=hR1 _ rfl
 exact hK
theorem w6 (q0:SoundC Tryz.prog 174 c5):SoundC Tryz.prog 134 c6:=by
 refine fn_sound tab_ok (gam_cons q0 gam_nil) mixed {loops:=[(0,[.reg 1 (.dat (.int .i64)),.reg 5 (.dat (.int .i64))])]} (fn:=Tryz.f134) Tryz.func134 (by kernel_rfl) (by kernel_rfl) ?_
 rintro ⟨a0,left0,⟨⟩⟩ K ⟨r,h,hK⟩
 change laws_szArcS a0 left0=some r at h
 unfold laws_szArcS at h
 conv=>whnf
 refine vIfD h (fun h=>?_) (fun h=>?_)
 conv=>whnf
 cases h
 exact hK
 conv=>whnf
 refine vLoop h ?_
 rintro I0 μ0 ⟨left1,i0,⟨⟩⟩ zs0 h hI0 hR0
 change laws_szArcS_loop0 a0 left1 i0=some zs0 at h
 unfold laws_szArcS_loop0 at h
 conv=>whnf
 refine vIfD h (fun h=>?_) (fun h=>?_)
 conv=>whnf
 refine vAt h (fun x0 he1a he1b he1x h=>?_)
 conv=>whnf
 refine vBind h (fun szArc0 hb2 h=>?_)
 conv=>whnf
 refine vIfD h (fun h=>?_) (fun h=>?_)
 conv=>whnf
 cases h
 obtain rfl:=hR0 _ rfl
 exact hK
 conv=>whnf
 cases h
 exact ⟨⟨rfl,rfl⟩,hI0 _ rfl⟩
 conv=>whnf
 cases h
 obtain rfl:=hR0 _ rfl
 exact hK
theorem w7 (q1:SoundC Tryz.prog 133 c1) (q2:SoundC Tryz.prog 134 c6) (q0:SoundC Tryz.prog 49 c2):SoundC Tryz.prog 94 c7:=by
 refine fn_sound tab_ok (gam_cons q1 (gam_cons q2 (gam_cons q0 gam_nil))) mixed {} (fn:=Tryz.f94) Tryz.func94 (by kernel_rfl) (by kernel_rfl) ?_
 rintro ⟨a0,left0,⟨⟩⟩ K ⟨r,h,hK⟩
 change laws_szCell a0 left0=some r at h
 unfold laws_szCell at h
 conv=>whnf
 refine vIfD h (fun h=>?_) (fun h=>?_)
 conv=>whnf
 cases h
 exact hK
 conv=>whnf
 refine vBind h (fun szPinS0 hb0 h=>?_)
 conv=>whnf
 refine vIfD h (fun h=>?_) (fun h=>?_)
 conv=>whnf
 cases h
 exact hK
 conv=>whnf
 refine vBind h (fun szArcS0 hb1 h=>?_)
 conv=>whnf
 refine vIfD h (fun h=>?_) (fun h=>?_)
 conv=>whnf
 cases h
 exact hK
 conv=>whnf
 refine vBind h (fun szInt64S0 hb2 h=>?_)
 conv=>whnf
 refine vIfD h (fun h=>?_) (fun h=>?_)
 conv=>whnf
 cases h
 exact hK
 conv=>whnf
 cases h
 exact hK
theorem w15 (q0:SoundC Tryz.prog 46 c11) (q1:SoundC Tryz.prog 47 c12) (q2:SoundC Tryz.prog 48 c14):SoundC Tryz.prog 20 c15:=by
 refine fn_sound tab_ok (gam_cons q0 (gam_cons q1 (gam_cons q2 gam_nil))) mixed {} (fn:=Tryz.f20) Tryz.func20 (by kernel_rfl) (by kernel_rfl) ?_
 rintro ⟨a0,left0,⟨⟩⟩ K ⟨r,h,hK⟩
 change laws_szDesign a0 left0=some r at h
 unfold laws_szDesign at h
 conv=>whnf
 refine vBind h (fun szInstanceS0 hb0 h=>?_)
 conv=>whnf
 refine vIfD h (fun h=>?_) (fun h=>?_)
 conv=>whnf
 cases h
 exact hK
 conv=>whnf
 refine vBind h (fun szStringS0 hb1 h=>?_)
 conv=>whnf
 refine vIfD h (fun h=>?_) (fun h=>?_)
 conv=>whnf
 cases h
 exact hK
 conv=>whnf
 refine vBind h (fun szPortS0 hb2 h=>?_)
 conv=>whnf
 refine vIfD h (fun h=>?_) (fun h=>?_)
 conv=>whnf
 cases h
 exact hK
 conv=>whnf
 cases h
 exact hK
theorem w9 (q0:SoundC Tryz.prog 45 c8):SoundC Tryz.prog 19 c9:=by
 refine fn_sound tab_ok (gam_cons q0 gam_nil) mixed {} (fn:=Tryz.f19) Tryz.func19 (by kernel_rfl) (by kernel_rfl) ?_
 rintro ⟨a0,left0,⟨⟩⟩ K ⟨r,h,hK⟩
 change laws_szLibrary a0 left0=some r at h
 unfold laws_szLibrary at h
 conv=>whnf
 refine vBind h (fun szCellS0 hb0 h=>?_)
 conv=>whnf
 refine vIfD h (fun h=>?_) (fun h=>?_)
 conv=>whnf
 cases h
 exact hK
 conv=>whnf
 cases h
 exact hK
theorem w3 (q0:SoundC Tryz.prog 49 c2):SoundC Tryz.prog 216 c3:=by
 refine fn_sound tab_ok (gam_cons q0 gam_nil) mixed {} (fn:=Tryz.f216) Tryz.func216 (by kernel_rfl) (by kernel_rfl) ?_
 rintro ⟨a0,left0,⟨⟩⟩ K ⟨r,h,hK⟩
 change laws_szTable a0 left0=some r at h
 unfold laws_szTable at h
 conv=>whnf
 refine vBind h (fun szInt64S0 hb0 h=>?_)
 conv=>whnf
 refine vIfD h (fun h=>?_) (fun h=>?_)
 conv=>whnf
 cases h
 exact hK
 conv=>whnf
 refine vBind h (fun szInt64S1 hb1 h=>?_)
 conv=>whnf
 refine vIfD h (fun h=>?_) (fun h=>?_)
 conv=>whnf
 cases h
 exact hK
 conv=>whnf
 refine vBind h (fun szInt64S2 hb2 h=>?_)
 conv=>whnf
 refine vIfD h (fun h=>?_) (fun h=>?_)
 conv=>whnf
 cases h
 exact hK
 conv=>whnf
 cases h
 exact hK
theorem w38 (q0:SoundC Tryz.prog 25 c29) (q1:SoundC Tryz.prog 26 c35) (q2:SoundC Tryz.prog 27 c37):SoundC Tryz.prog 8 c38:=by
 refine fn_sound tabD_ok (gam_cons q0 (gam_cons q1 (gam_cons q2 gam_nil))) mixed {} (fn:=Tryz.f8) Tryz.func8 (by kernel_rfl) (by kernel_rfl) ?_
 rintro ⟨a0,⟨⟩⟩ K ⟨r,h,hK⟩
 change laws_toBlock a0=some r at h
 unfold laws_toBlock at h
 conv=>whnf
 refine vBind h (fun toLibrary0 hb0 h=>?_)
 conv=>whnf
 intro fp1
 conv=>whnf
 refine vBind h (fun toDesign0 hb2 h=>?_)
 conv=>whnf
 intro fp3
 conv=>whnf
 refine vBind h (fun toWireS0 hb4 h=>?_)
 conv=>whnf
 intro fp5
 conv=>whnf
 cases h
 exact hK
theorem w29 (q0:SoundC Tryz.prog 58 c28):SoundC Tryz.prog 25 c29:=by
 refine fn_sound tabD_ok (gam_cons q0 gam_nil) mixed {} (fn:=Tryz.f25) Tryz.func25 (by kernel_rfl) (by kernel_rfl) ?_
 rintro ⟨a0,⟨⟩⟩ K ⟨r,h,hK⟩
 change laws_toLibrary a0=some r at h
 unfold laws_toLibrary at h
 conv=>whnf
 refine vBind h (fun toCellS0 hb0 h=>?_)
 conv=>whnf
 intro fp1
 conv=>whnf
 cases h
 exact hK
theorem w24 (q0:SoundC Tryz.prog 218 c23):SoundC Tryz.prog 199 c24:=by
 refine fn_sound tabD_ok (gam_cons q0 gam_nil) mixed {loops:=[(0,[.reg 4 (.dat (.int .i64)),.ent 0 (nat_lit 227) dTable])]} (fn:=Tryz.f199) Tryz.func199 (by kernel_rfl) (by kernel_rfl) ?_
 rintro ⟨a0,⟨⟩⟩ K ⟨r,h,hK⟩
 change laws_toTableS a0=some r at h
 unfold laws_toTableS at h
 conv=>whnf
 refine vPre h (fun hp0 h=>?_)
 conv=>whnf
 refine vPre h (fun hp1 h=>?_)
 conv=>whnf
 refine vPre h (fun hp2 h=>?_)
 conv=>whnf
 refine vPre h (fun hp3 h=>?_)
 conv=>whnf
 intro fp4
 conv=>whnf
 refine vLoop h ?_
 rintro I5 μ5 ⟨i0,l0,⟨⟩⟩ zs5 h hI5 hR5
 change laws_toTableS_loop0 a0 i0 l0=some zs5 at h
 unfold laws_toTableS_loop0 at h
 conv=>whnf
 intro fp6
 conv=>whnf
 refine vIfD h (fun h=>?_) (fun h=>?_)
 conv=>whnf
 refine vAt h (fun x0 he7a he7b he7x h=>?_)
 conv=>whnf
 refine vBind h (fun toTable0 hb8 h=>?_)
 conv=>whnf
 refine vAt h (fun x1 he9a he9b he9x h=>?_)
 conv=>whnf
 refine ⟨he9a,he9b,vAgain he9x ?_⟩
 conv=>whnf
 intro fp10
 conv=>whnf
 cases h
 exact ⟨⟨rfl,rfl⟩,hI5 _ rfl⟩
 conv=>whnf
 cases h
 obtain rfl:=hR5 _ rfl
 exact hK
theorem w36 (q0:SoundC Tryz.prog 62 c22):SoundC Tryz.prog 28 c36:=by
 refine fn_sound tab_ok (gam_cons q0 gam_nil) mixed {} (fn:=Tryz.f28) Tryz.func28 (by kernel_rfl) (by kernel_rfl) ?_
 rintro ⟨a0,⟨⟩⟩ K ⟨r,h,hK⟩
 change laws_toWire a0=some r at h
 unfold laws_toWire at h
 conv=>whnf
 refine vBind h (fun toInt64S0 hb0 h=>?_)
 conv=>whnf
 refine vBind h (fun toInt64S1 hb1 h=>?_)
 conv=>whnf
 refine vBind h (fun toInt64S2 hb2 h=>?_)
 conv=>whnf
 refine vBind h (fun toInt64S3 hb3 h=>?_)
 conv=>whnf
 cases h
 exact hK
theorem w107 (q0:SoundC Tryz.prog 236 c106):SoundC Tryz.prog 221 c107:=by
 refine fn_sound tab_ok (gam_cons q0 gam_nil) mixed {} (fn:=Tryz.f221) Tryz.func221 (by kernel_rfl) (by kernel_rfl) ?_
 rintro ⟨s0,f0,⟨⟩⟩ K ⟨r,h,hK⟩
 change slices_ContainsFunc_Simpl_Arc_impl_Arc_at_impl_Cell_has_c1 s0 f0=some r at h
 unfold slices_ContainsFunc_Simpl_Arc_impl_Arc_at_impl_Cell_has_c1 at h
 conv=>whnf
 refine vBind h (fun c1_0 hb0 h=>?_)
 conv=>whnf
 cases h
 exact hK
theorem w129:SoundC Tryz.prog 205 c129:=by
 refine fn_sound tab_ok gam_nil mixed {loops:=[(0,[.reg 13 (.dat (.int .i64))])],draws:=[(6,[0,0,3,7,0,0,48,112,255],.op 0 (.op 1 (.op 2 (.op 3 (.op 4 (.op 5 (.op 6 (.op 7 (.op 8 (.done))))))))))]} (fn:=Tryz.f205) Tryz.func205 (by kernel_rfl) (by kernel_rfl) ?_
 rintro ⟨s1_0,s2_0,⟨⟩⟩ K ⟨r,h,hK⟩
 change slices_Equal_Sint64_int64 s1_0 s2_0=some r at h
 unfold slices_Equal_Sint64_int64 at h
 conv=>whnf
 refine vNots ?_
 refine vIfD h (fun h=>?_) (fun h=>?_)
 conv=>whnf
 refine vLoop h ?_
 rintro I0 μ0 ⟨v0,⟨⟩⟩ zs0 h hI0 hR0
 change slices_Equal_Sint64_int64_loop0 s1_0 s2_0 v0=some zs0 at h
 unfold slices_Equal_Sint64_int64_loop0 at h
 conv=>whnf
 refine vIfD h (fun h=>?_) (fun h=>?_)
 conv=>whnf
 refine ⟨by kernel_rfl,?_⟩
 conv=>whnf
 refine vAt h (fun x0 he1a he1b he1x h=>?_)
 conv=>whnf
 refine vAt h (fun x1 he2a he2b he2x h=>?_)
 conv=>whnf
 refine vNots ?_
 refine vIfD h (fun h=>?_) (fun h=>?_)
 conv=>whnf
 cases h
 exact ⟨⟨rfl,rfl⟩,hI0 _ rfl⟩
 conv=>whnf
 cases h
 obtain rfl:=hR0 _ rfl
 exact hK
 conv=>whnf
 cases h
 obtain rfl:=hR0 _ rfl
 exact hK
 conv=>whnf
 cases h
 exact hK
theorem w106 (q0:SoundC Tryz.prog 237 c105):SoundC Tryz.prog 236 c106:=by
 refine fn_sound tab_ok (gam_cons q0 gam_nil) mixed {loops:=[(0,[.reg 8 (.dat (.int .i64))])]} (fn:=Tryz.f236) Tryz.func236 (by kernel_rfl) (by kernel_rfl) ?_
 rintro ⟨s0,f0,⟨⟩⟩ K ⟨r,h,hK⟩
 change slices_IndexFunc_Simpl_Arc_impl_Arc_at_impl_Cell_has_c1 s0 f0=some r at h
 unfold slices_IndexFunc_Simpl_Arc_impl_Arc_at_impl_Cell_has_c1 at h
 conv=>whnf
 refine vLoop h ?_
 rintro I0 μ0 ⟨v0,⟨⟩⟩ zs0 h hI0 hR0
 change slices_IndexFunc_Simpl_Arc_impl_Arc_at_impl_Cell_has_c1_loop0 s0 f0 v0=some zs0 at h
 unfold slices_IndexFunc_Simpl_Arc_impl_Arc_at_impl_Cell_has_c1_loop0 at h
 conv=>whnf
 refine vIfD h (fun h=>?_) (fun h=>?_)
 conv=>whnf
 refine vAt h (fun x0 he1a he1b he1x h=>?_)
 conv=>whnf
 refine vBind h (fun c1_0 hb2 h=>?_)
 conv=>whnf
 refine vIfB h (fun h=>?_) (fun h=>?_)
 conv=>whnf
 cases h
 obtain rfl:=hR0 _ rfl
 exact hK
 conv=>whnf
 cases h
 exact ⟨⟨rfl,rfl⟩,hI0 _ rfl⟩
 conv=>whnf
 cases h
 obtain rfl:=hR0 _ rfl
 exact hK
theorem w92 (q0:SoundC Tryz.prog 243 c91):SoundC Tryz.prog 252 c92:=by
 refine fn_sound tab_ok (gam_cons q0 gam_nil) mixed {loops:=[(0,[.reg 8 (.dat (.int .i64))])]} (fn:=Tryz.f252) Tryz.func252 (by kernel_rfl) (by kernel_rfl) ?_
 rintro ⟨s0,f0,⟨⟩⟩ K ⟨r,h,hK⟩
 change slices_IndexFunc_Simpl_Table_impl_Table_at_impl_areTables_c1 s0 f0=some r at h
 unfold slices_IndexFunc_Simpl_Table_impl_Table_at_impl_areTables_c1 at h
 conv=>whnf
 refine vLoop h ?_
 rintro I0 μ0 ⟨v0,⟨⟩⟩ zs0 h hI0 hR0
 change slices_IndexFunc_Simpl_Table_impl_Table_at_impl_areTables_c1_loop0 s0 f0 v0=some zs0 at h
 unfold slices_IndexFunc_Simpl_Table_impl_Table_at_impl_areTables_c1_loop0 at h
 conv=>whnf
 refine vIfD h (fun h=>?_) (fun h=>?_)
 conv=>whnf
 refine vAt h (fun x0 he1a he1b he1x h=>?_)
 conv=>whnf
 refine vBind h (fun c1_0 hb2 h=>?_)
 conv=>whnf
 refine vIfB h (fun h=>?_) (fun h=>?_)
 conv=>whnf
 cases h
 obtain rfl:=hR0 _ rfl
 exact hK
 conv=>whnf
 cases h
 exact ⟨⟨rfl,rfl⟩,hI0 _ rfl⟩
 conv=>whnf
 cases h
 obtain rfl:=hR0 _ rfl
 exact hK
theorem w40:SoundC Tryz.prog 102 c40:=by
 refine fn_sound tab_ok gam_nil mixed {loops:=[(0,[.reg 3 (.dat (.int .i64))])]} (fn:=Tryz.f102) Tryz.func102 (by kernel_rfl) (by kernel_rfl) ?_
 rintro ⟨s0,⟨⟩⟩ K ⟨r,h,hK⟩
 change spec_l03Name s0=some r at h
 unfold spec_l03Name at h
 conv=>whnf
 refine vLoop h ?_
 rintro I0 μ0 ⟨i0,⟨⟩⟩ zs0 h hI0 hR0
 change spec_l03Name_loop0 s0 i0=some zs0 at h
 unfold spec_l03Name_loop0 at h
 conv=>whnf
 refine vIfD h (fun h=>?_) (fun h=>?_)
 conv=>whnf
 refine vAt h (fun x0 he1a he1b he1x h=>?_)
 conv=>whnf
 refine vIfD h (fun h=>?_) (fun h=>?_)
 conv=>whnf
 refine ⟨he1a,he1b,vAgain he1x ?_⟩
 conv=>whnf
 refine ⟨he1a,he1b,vAgain he1x ?_⟩
 conv=>whnf
 refine vIfD h (fun h=>?_) (fun h=>?_)
 conv=>whnf
 refine ⟨he1a,he1b,vAgain he1x ?_⟩
 conv=>whnf
 refine vNots ?_
 refine vIfD h (fun h=>?_) (fun h=>?_)
 conv=>whnf
 cases h
 exact ⟨⟨rfl,rfl⟩,hI0 _ rfl⟩
 conv=>whnf
 refine vIfD h (fun h=>?_) (fun h=>?_)
 conv=>whnf
 refine vNots ?_
 refine vIfD h (fun h=>?_) (fun h=>?_)
 conv=>whnf
 cases h
 exact ⟨⟨rfl,rfl⟩,hI0 _ rfl⟩
 conv=>whnf
 cases h
 obtain rfl:=hR0 _ rfl
 exact hK
 conv=>whnf
 cases h
 obtain rfl:=hR0 _ rfl
 exact hK
 conv=>whnf
 refine vNots ?_
 refine vIfD h (fun h=>?_) (fun h=>?_)
 conv=>whnf
 cases h
 exact ⟨⟨rfl,rfl⟩,hI0 _ rfl⟩
 conv=>whnf
 cases h
 obtain rfl:=hR0 _ rfl
 exact hK
 conv=>whnf
 refine ⟨he1a,he1b,vAgain he1x ?_⟩
 conv=>whnf
 refine vIfD h (fun h=>?_) (fun h=>?_)
 conv=>whnf
 refine ⟨he1a,he1b,vAgain he1x ?_⟩
 conv=>whnf
 refine vIfD h (fun h=>?_) (fun h=>?_)
 conv=>whnf
 refine vNots ?_
 refine vIfD h (fun h=>?_) (fun h=>?_)
 conv=>whnf
 cases h
 exact ⟨⟨rfl,rfl⟩,hI0 _ rfl⟩
 conv=>whnf
 cases h
 obtain rfl:=hR0 _ rfl
 exact hK
 conv=>whnf
 cases h
 obtain rfl:=hR0 _ rfl
 exact hK
 conv=>whnf
 cases h
 obtain rfl:=hR0 _ rfl
 exact hK
 conv=>whnf
 refine vIfD h (fun h=>?_) (fun h=>?_)
 conv=>whnf
 cases h
 obtain rfl:=hR0 _ rfl
 exact hK
 conv=>whnf
 cases h
 obtain rfl:=hR0 _ rfl
 exact hK
theorem w52 (q0:SoundC Tryz.prog 102 c40):SoundC Tryz.prog 137 c52:=by
 refine fn_sound tab_ok (gam_cons q0 gam_nil) mixed {loops:=[(0,[.reg 3 (.dat (.int .i64))]),(2,[.reg 4 (.dat (.int .i64))])],draws:=[(9,[0,0,3,7,0,0,48,112,255],.op 0 (.op 1 (.op 2 (.op 3 (.op 4 (.op 5 (.op 6 (.op 7 (.op 8 (.done))))))))))]} (fn:=Tryz.f137) Tryz.func137 (by kernel_rfl) (by kernel_rfl) ?_
 rintro ⟨list0,⟨⟩⟩ K ⟨r,h,hK⟩
 change spec_l05Names list0=some r at h
 unfold spec_l05Names at h
 conv=>whnf
 refine vLoop h ?_
 rintro I0 μ0 ⟨i0,⟨⟩⟩ zs0 h hI0 hR0
 change spec_l05Names_loop1 list0 i0=some zs0 at h
 unfold spec_l05Names_loop1 at h
 conv=>whnf
 refine vIfD h (fun h=>?_) (fun h=>?_)
 conv=>whnf
 refine vAt h (fun x0 he1a he1b he1x h=>?_)
 conv=>whnf
 refine vBind h (fun l03Name0 hb2 h=>?_)
 conv=>whnf
 refine vNots ?_
 refine vIfB h (fun h=>?_) (fun h=>?_)
 conv=>whnf
 refine vLoop h ?_
 rintro I3 μ3 ⟨k0,⟨⟩⟩ zs3 h hI3 hR3
 change spec_l05Names_loop0 list0 i0 x0 k0=some zs3 at h
 unfold spec_l05Names_loop0 at h
 conv=>whnf
 refine vIfD h (fun h=>?_) (fun h=>?_)
 conv=>whnf
 refine ⟨by kernel_rfl,?_⟩
 conv=>whnf
 refine vAt h (fun x1 he4a he4b he4x h=>?_)
 conv=>whnf
 refine ⟨he1a,he1b,vAgain he1x ?_⟩
 conv=>whnf
 refine vIfD h (fun h=>?_) (fun h=>?_)
 conv=>whnf
 cases h
 obtain rfl:=hR3 _ rfl
 obtain rfl:=hR0 _ rfl
 exact hK
 conv=>whnf
 cases h
 exact ⟨⟨rfl,rfl⟩,hI3 _ rfl⟩
 conv=>whnf
 cases h
 obtain rfl:=hR3 _ rfl
 exact ⟨⟨rfl,rfl⟩,hI0 _ rfl⟩
 conv=>whnf
 cases h
 obtain rfl:=hR0 _ rfl
 exact hK
 conv=>whnf
 cases h
 obtain rfl:=hR0 _ rfl
 exact hK
theorem w72 (q1:SoundC Tryz.prog 54 c54) (q2:SoundC Tryz.prog 55 c55) (q3:SoundC Tryz.prog 56 c69) (q0:SoundC Tryz.prog 57 c71):SoundC Tryz.prog 24 c72:=by
 refine fn_sound tab_ok (gam_cons q1 (gam_cons q2 (gam_cons q3 (gam_cons q0 gam_nil)))) mixed {draws:=[(4,[0,1,0,4,12,0,0,64,224,480,992,2044,4092,8188,16383,32767],.op 0 (.op 1 (.op 2 (.op 3 (.op 4 (.op 5 (.op 6 (.op 7 (.op 8 (.op 9 (.op 10 (.op 11 (.op 12 (.op 13 (.op 14 (.alt 15 (.done) (.done))))))))))))))))),(14,[0,1,0,0,8,28,60,124,0,256,0,1024,3840,7936,16383,32767],.op 0 (.op 1 (.op 2 (.op 3 (.op 4 (.op 5 (.op 6 (.op 7 (.op 8 (.op 10 (.op 11 (.alt 9 (.op 12 (.op 13 (.op 14 (.alt 15 (.done) (.done))))) (.done))))))))))))),(15,[0,1,0,4,0,16,60,124,252,511,1023],.op 0 (.op 1 (.op 2 (.op 3 (.op 4 (.op 5 (.op 6 (.op 7 (.alt 8 (.op 9 (.alt 10 (.done) (.done))) (.done))))))))))]} (fn:=Tryz.f24) Tryz.func24 (by kernel_rfl) (by kernel_rfl) ?_
 rintro ⟨a0,a1,⟨⟩⟩ K ⟨r,h,hK⟩
 change spec_l08Inverse a0 a1=some r at h
 unfold spec_l08Inverse at h
 conv=>whnf
 refine vBind h (fun l05Places0 hb0 h=>?_)
 conv=>whnf
 refine vIfD h (fun h=>?_) (fun h=>?_)
 conv=>whnf
 refine ⟨by kernel_rfl,?_⟩
 conv=>whnf
 refine vAt h (fun x0 he1a he1b he1x h=>?_)
 conv=>whnf
 refine ⟨by kernel_rfl,?_⟩
 conv=>whnf
 refine ⟨he1a,he1b,vAgain he1x ?_⟩
 conv=>whnf
 refine vAt h (fun x1 he2a he2b he2x h=>?_)
 conv=>whnf
 cases h
 exact hK
 conv=>whnf
 refine vIfD h (fun h=>?_) (fun h=>?_)
 conv=>whnf
 cases h
 exact hK
 conv=>whnf
 refine vIfD h (fun h=>?_) (fun h=>?_)
 conv=>whnf
 refine vAt h (fun x0 he3a he3b he3x h=>?_)
 conv=>whnf
 refine vBind h (fun l05Sinks0 hb4 h=>?_)
 conv=>whnf
 refine vAt h (fun x1 he5a he5b he5x h=>?_)
 conv=>whnf
 refine ⟨by kernel_rfl,?_⟩
 conv=>whnf
 refine ⟨he5a,he5b,vAgain he5x ?_⟩
 conv=>whnf
 refine vAt h (fun x2 he6a he6b he6x h=>?_)
 conv=>whnf
 refine ⟨by kernel_rfl,?_⟩
 conv=>whnf
 refine ⟨he6a,he6b,vAgain he6x ?_⟩
 conv=>whnf
 refine vIfD h (fun h=>?_) (fun h=>?_)
 conv=>whnf
 cases h
 exact hK
 conv=>whnf
 cases h
 exact hK
 conv=>whnf
 refine vIfD h (fun h=>?_) (fun h=>?_)
 conv=>whnf
 refine ⟨by kernel_rfl,?_⟩
 conv=>whnf
 refine vAt h (fun x0 he7a he7b he7x h=>?_)
 conv=>whnf
 refine ⟨by kernel_rfl,?_⟩
 conv=>whnf
 refine ⟨he7a,he7b,vAgain he7x ?_⟩
 conv=>whnf
 refine vBind h (fun l08Nodes0 hb8 h=>?_)
 conv=>whnf
 refine vAt h (fun x1 he9a he9b he9x h=>?_)
 conv=>whnf
 refine ⟨by kernel_rfl,?_⟩
 conv=>whnf
 refine ⟨he9a,he9b,vAgain he9x ?_⟩
 conv=>whnf
 cases h
 exact hK
 conv=>whnf
 refine ⟨by kernel_rfl,?_⟩
 conv=>whnf
 refine vAt h (fun x0 he10a he10b he10x h=>?_)
 conv=>whnf
 refine vBind h (fun l07OwnWire0 hb11 h=>?_)
 conv=>whnf
 cases h
 exact hK
theorem w69 (q0:SoundC Tryz.prog 54 c54) (q1:SoundC Tryz.prog 55 c55):SoundC Tryz.prog 56 c69:=by
 refine fn_sound tab_ok (gam_cons q0 (gam_cons q1 gam_nil)) mixed {loops:=[(0,[.reg 4 (.dat (.int .i64)),.ent 2 (nat_lit 2) (.flat ti33.ety)]),(2,[.reg 6 (.dat (.int .i64)),.ent 2 (nat_lit 2) (.flat ti33.ety)])],draws:=[(9,[0,0,0,6,14,0,32,0,224,480,992,0,4064,8160,16383,32767],.op 0 (.op 1 (.op 2 (.op 3 (.op 4 (.op 5 (.op 6 (.op 7 (.op 8 (.op 9 (.op 10 (.op 11 (.op 12 (.op 13 (.op 14 (.alt 15 (.done) (.done)))))))))))))))))]} (fn:=Tryz.f56) Tryz.func56 (by kernel_rfl) (by kernel_rfl) ?_
 rintro ⟨b0,⟨⟩⟩ K ⟨r,h,hK⟩
 change spec_l08Nodes b0=some r at h
 unfold spec_l08Nodes at h
 conv=>whnf
 refine vBind h (fun l05Places0 hb0 h=>?_)
 conv=>whnf
 refine vPre h (fun hp1 h=>?_)
 conv=>whnf
 refine vPre h (fun hp2 h=>?_)
 conv=>whnf
 refine vPre h (fun hp3 h=>?_)
 conv=>whnf
 refine vPre h (fun hp4 h=>?_)
 conv=>whnf
 refine vLoop h ?_
 rintro I5 μ5 ⟨net0,l0,⟨⟩⟩ zs5 h hI5 hR5
 change spec_l08Nodes_loop1 b0 net0 l0=some zs5 at h
 unfold spec_l08Nodes_loop1 at h
 conv=>whnf
 refine vIfD h (fun h=>?_) (fun h=>?_)
 conv=>whnf
 refine vBind h (fun l05Sinks0 hb6 h=>?_)
 conv=>whnf
 refine vLoop h ?_
 rintro I7 μ7 ⟨i0,l1,⟨⟩⟩ zs7 h hI7 hR7
 change spec_l08Nodes_loop0 b0 net0 l05Sinks0 i0 l1=some zs7 at h
 unfold spec_l08Nodes_loop0 at h
 conv=>whnf
 refine vIfD h (fun h=>?_) (fun h=>?_)
 conv=>whnf
 refine ⟨by kernel_rfl,?_⟩
 conv=>whnf
 refine vAt h (fun x0 he8a he8b he8x h=>?_)
 conv=>whnf
 refine ⟨by kernel_rfl,?_⟩
 conv=>whnf
 refine ⟨he8a,he8b,vAgain he8x ?_⟩
 conv=>whnf
 refine vAt h (fun x1 he9a he9b he9x h=>?_)
 conv=>whnf
 refine vAt h (fun x2 he10a he10b he10x h=>?_)
 conv=>whnf
 refine vAt h (fun x3 he11a he11b he11x h=>?_)
 conv=>whnf
 refine ⟨by kernel_rfl,?_⟩
 conv=>whnf
 refine ⟨by decide,?_⟩
 conv=>whnf
 refine ⟨he11a,he11b,vAgain he11x ?_⟩
 conv=>whnf
 cases h
 exact ⟨⟨rfl,rfl⟩,hI7 _ rfl⟩
 conv=>whnf
 cases h
 obtain rfl:=hR7 _ rfl
 exact ⟨⟨rfl,rfl⟩,hI5 _ rfl⟩
 conv=>whnf
 cases h
 obtain rfl:=hR5 _ rfl
 exact hK
end Go.Proofs.YtpkjjgdhmafonaaGreatDoor
