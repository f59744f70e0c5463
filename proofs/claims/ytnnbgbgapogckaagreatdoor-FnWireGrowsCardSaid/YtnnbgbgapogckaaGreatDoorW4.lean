/-
  The functions keep their contracts, if what they call does. Printed by program.
-/
import Derived.Test.YtnnbgbgapogckaaGreatDoorM
import Derived.KernelRfl
namespace Go.Proofs.YtnnbgbgapogckaaGreatDoor
open Go Go.Sx
set_option maxRecDepth 100000
set_option maxHeartbeats 6400000
set_option linter.unusedVariables false
set_option linter.unusedSimpArgs false
theorem ZGh (q1:Sq 30 c124) (q0:Sq 58 c141):Sq 19 ZBi:=by
 refine Zm VX (Zg q1 (Zg q0 Zu)) mixed {} (fn:=Tryz.f19) Tryz.func19 (by kernel_rfl) (by kernel_rfl) ?_
 rintro ⟨b0,e0,⟨⟩⟩ K ⟨r,h,hK⟩
 change Zqs b0 e0=some r at h
 unfold Zqs at h
 conv=>whnf
 refine Ze h (fun EditCode0 hb0 h=>?_)
 conv=>whnf
 refine Yc ?_
 refine ZG h (fun h=>?_) (fun h=>?_)
 conv=>whnf
 refine Ze h (fun apply0 hb1 h=>?_)
 conv=>whnf
 intro fp2
 conv=>whnf
 intro fp3
 conv=>whnf
 intro fp4
 conv=>whnf
 cases h
 exact hK
 conv=>whnf
 cases h
 exact hK
theorem ZF9 (q0:Sq 195 ZA9) (q1:Sq 196 ZBb) (q2:Sq 122 ZBc):Sq 116 ZBd:=by
 refine Zm VX (Zg q0 (Zg q1 (Zg q2 Zu))) mixed {loops:=[(0,[.reg 16 (.dat Iq),.cello 1003 4 (.ol 58 (ZgI))])],draws:=[(1,[0,1,3,0,8,31,63,0,255],.op 0 (.op 1 (.op 3 (.op 4 (.alt 2 (.alt 5 (.op 6 (.alt 7 (.alt 8 (.done) (.done)) (.done))) (.alt 7 (.alt 5 (.op 6 (.alt 8 (.done) (.done))) (.done)) (.done))) (.alt 7 (.alt 2 (.alt 5 (.op 6 (.alt 8 (.done) (.done))) (.done)) (.done)) (.done))))))),(5,[0,1,0,4,12,31,63,127],.op 0 (.op 1 (.op 2 (.alt 3 (.alt 4 (.alt 5 (.op 6 (.alt 7 (.done) (.done))) (.done)) (.done)) (.done)))))]} (fn:=Tryz.f116) Tryz.func116 (by kernel_rfl) (by kernel_rfl) ?_
 rintro ⟨b0,⟨⟩⟩ K ⟨r,h,hK⟩
 change ZrM b0=some r at h
 unfold ZrM at h
 focus
  conv=>whnf
  refine ⟨by kernel_rfl,?_⟩
  conv=>whnf
  obtain ⟨cloneLibrary0,hb0,h⟩:=Option.bind_eq_some_iff.1 h
  obtain ⟨clone0,hb2,h⟩:=Option.bind_eq_some_iff.1 h
  refine ⟨?_,?_⟩
  rotate_left
  focus
   conv=>whnf
   refine ⟨_,hb0,?_⟩
   conv=>whnf
   intro fp12
   conv=>whnf
   refine ⟨_,hb2,?_⟩
   conv=>whnf
   intro fp13
   conv=>whnf
   refine ⟨trivial,?_⟩
  rotate_right
  focus
   conv=>whnf
   refine ⟨_,hb0,?_⟩
   conv=>whnf
   intro fp12
   conv=>whnf
   refine ⟨?_,?_⟩
   rotate_left
   focus
    conv=>whnf
    refine ⟨_,hb2,?_⟩
    conv=>whnf
    intro fp13
    conv=>whnf
    refine ⟨trivial,?_⟩
   rotate_right
   focus
    conv=>whnf
    refine ⟨_,hb2,?_⟩
    conv=>whnf
    intro fp13
    conv=>whnf
    refine ⟨trivial,?_⟩
  all_goals
   conv=>whnf
   refine YH h ?_
   rintro I4 μ4 ⟨v0,c0,⟨⟩⟩ zs4 h hI4 hR4
   change ZqW b0 cloneLibrary0 clone0 v0 c0=some zs4 at h
   unfold ZqW at h
   conv=>whnf
   intro fp5
   conv=>whnf
   refine ZG h (fun h=>?_) (fun h=>?_)
   conv=>whnf
   refine vAt h (fun x0 he6a he6b he6x h=>?_)
   conv=>whnf
   refine ⟨by kernel_rfl,?_⟩
   conv=>whnf
   refine Ze h (fun clone1 hb7 h=>?_)
   conv=>whnf
   intro fp8
   conv=>whnf
   refine Yk h (fun hp9 h=>?_)
   conv=>whnf
   intro fp10
   conv=>whnf
   refine ⟨trivial,?_⟩
   conv=>whnf
   cases h
   exact ⟨⟨rfl,rfl⟩,hI4 _ rfl⟩
   conv=>whnf
   cases h
   obtain rfl:=hR4 _ rfl
   exact hK
theorem w81 (q0:Sq 134 c78) (q1:Sq 83 c73) (q2:Sq 192 c79) (q3:Sq 193 c80):Sq 113 c81:=by
 refine Zm ZL (Zg q0 (Zg q1 (Zg q2 (Zg q3 Zu)))) mixed {loops:=[(0,[.reg 27 (.dat Iq),.ent 2 (nat_lit 2) (.flat (Ty.int IntKind.i64))]),(2,[.reg 10 (.dat Iq),.ent 2 (nat_lit 2) (.flat (Ty.int IntKind.i64))])],draws:=[(7,[0,0,2,0,14,30,63,127,0,256,0,1024,0,0,12288,28672,65280,131071,262143,524287],.op 0 (.op 1 (.op 2 (.op 3 (.op 4 (.op 5 (.op 6 (.op 7 (.op 8 (.op 9 (.op 10 (.op 11 (.op 12 (.op 13 (.op 14 (.op 15 (.alt 16 (.op 17 (.op 18 (.alt 19 (.done) (.done)))) (.done)))))))))))))))))),(12,[0,0,2,0,14,30,63,127,0,0,768,1792,4095,8191,16383],.op 0 (.op 1 (.op 2 (.op 3 (.op 4 (.op 5 (.op 6 (.op 7 (.op 8 (.op 9 (.op 10 (.op 11 (.op 12 (.op 13 (.alt 14 (.done) (.done))))))))))))))))]} (fn:=Tryz.f113) Tryz.func113 (by kernel_rfl) (by kernel_rfl) ?_
 rintro ⟨a0,a1,⟨⟩⟩ K ⟨r,h,hK⟩
 change ZDY a0 a1=some r at h
 unfold ZDY at h
 conv=>whnf
 refine vAt h (fun x0 he0a he0b he0x h=>?_)
 conv=>whnf
 refine Ze h (fun int64_0 hb1 h=>?_)
 conv=>whnf
 refine Ze h (fun places0 hb2 h=>?_)
 conv=>whnf
 refine Ze h (fun sinks0 hb3 h=>?_)
 conv=>whnf
 refine YH h ?_
 rintro I4 μ4 ⟨v0,l0,⟨⟩⟩ zs4 h hI4 hR4
 change ZD0 a0 x0 places0 sinks0 v0 l0=some zs4 at h
 unfold ZD0 at h
 conv=>whnf
 refine ZG h (fun h=>?_) (fun h=>?_)
 conv=>whnf
 refine vAt h (fun x1 he5a he5b he5x h=>?_)
 conv=>whnf
 refine ⟨by kernel_rfl,?_⟩
 conv=>whnf
 refine ⟨he5a,he5b,Zh he5x ?_⟩
 conv=>whnf
 refine ⟨by kernel_rfl,?_⟩
 conv=>whnf
 refine vAt h (fun x2 he6a he6b he6x h=>?_)
 conv=>whnf
 refine vAt h (fun x3 he7a he7b he7x h=>?_)
 conv=>whnf
 refine ⟨by kernel_rfl,?_⟩
 conv=>whnf
 refine ⟨he7a,he7b,Zh he7x ?_⟩
 conv=>whnf
 refine vAt h (fun x4 he8a he8b he8x h=>?_)
 conv=>whnf
 refine ⟨by kernel_rfl,?_⟩
 conv=>whnf
 refine ⟨he8a,he8b,Zh he8x ?_⟩
 conv=>whnf
 refine Ze h (fun capOf0 hb9 h=>?_)
 conv=>whnf
 refine ⟨he7a,he7b,Zh he7x ?_⟩
 conv=>whnf
 refine ⟨by kernel_rfl,?_⟩
 conv=>whnf
 refine ⟨by decide,?_⟩
 conv=>whnf
 refine ⟨he7a,he7b,Zh he7x ?_⟩
 conv=>whnf
 refine ⟨trivial,?_⟩
 conv=>whnf
 cases h
 exact ⟨⟨rfl,rfl⟩,hI4 _ rfl⟩
 conv=>whnf
 refine YH h ?_
 rintro I10 μ10 ⟨v1,l1,⟨⟩⟩ zs10 h hI10 hR10
 change ZDZ x0 v1 l1=some zs10 at h
 unfold ZDZ at h
 conv=>whnf
 refine ZG h (fun h=>?_) (fun h=>?_)
 conv=>whnf
 refine ⟨by kernel_rfl,?_⟩
 conv=>whnf
 refine vAt h (fun x1 he11a he11b he11x h=>?_)
 conv=>whnf
 refine vAt h (fun x2 he12a he12b he12x h=>?_)
 conv=>whnf
 refine ⟨by kernel_rfl,?_⟩
 conv=>whnf
 refine ⟨he12a,he12b,Zh he12x ?_⟩
 conv=>whnf
 refine vAt h (fun x3 he13a he13b he13x h=>?_)
 conv=>whnf
 refine ⟨by kernel_rfl,?_⟩
 conv=>whnf
 refine ⟨he13a,he13b,Zh he13x ?_⟩
 conv=>whnf
 refine ⟨he12a,he12b,Zh he12x ?_⟩
 conv=>whnf
 refine ⟨by kernel_rfl,?_⟩
 conv=>whnf
 refine ⟨by decide,?_⟩
 conv=>whnf
 refine ⟨he12a,he12b,Zh he12x ?_⟩
 conv=>whnf
 refine ⟨trivial,?_⟩
 conv=>whnf
 cases h
 exact ⟨⟨rfl,rfl⟩,hI10 _ rfl⟩
 conv=>whnf
 cases h
 obtain rfl:=hR10 _ rfl
 obtain rfl:=hR4 _ rfl
 exact hK
theorem w53 (q1:Sq 275 c49) (q0:Sq 276 c52):Sq 251 c53:=by
 refine Zm ZL (Zg q1 (Zg q0 Zu)) mixed {loops:=[(0,[.reg 8 (.dat Iq)])]} (fn:=Tryz.f251) Tryz.func251 (by kernel_rfl) (by kernel_rfl) ?_
 rintro ⟨c0,⟨⟩⟩ K ⟨r,h,hK⟩
 change Zsg c0=some r at h
 unfold Zsg at h
 conv=>whnf
 refine YH h ?_
 rintro I0 μ0 ⟨v0,⟨⟩⟩ zs0 h hI0 hR0
 change ZrF c0 v0=some zs0 at h
 unfold ZrF at h
 conv=>whnf
 refine ZG h (fun h=>?_) (fun h=>?_)
 conv=>whnf
 refine vAt h (fun x0 he1a he1b he1x h=>?_)
 conv=>whnf
 refine Ze h (fun isArc0 hb2 h=>?_)
 conv=>whnf
 refine Zj4 ?_
 refine Qn h (fun h=>?_) (fun h=>?_)
 conv=>whnf
 refine ⟨by decide,?_⟩
 conv=>whnf
 refine Yk h (fun hp3 h=>?_)
 conv=>whnf
 refine Yk h (fun hp4 h=>?_)
 conv=>whnf
 refine Ze h (fun c1_0 hb5 h=>?_)
 conv=>whnf
 refine Qn h (fun h=>?_) (fun h=>?_)
 conv=>whnf
 cases h
 obtain rfl:=hR0 _ rfl
 exact hK
 conv=>whnf
 cases h
 exact ⟨⟨rfl,rfl⟩,hI0 _ rfl⟩
 conv=>whnf
 cases h
 obtain rfl:=hR0 _ rfl
 exact hK
 conv=>whnf
 cases h
 obtain rfl:=hR0 _ rfl
 exact hK
theorem w57 (q0:Sq 276 c56):Sq 279 c57:=by
 refine Zm ZL (Zg q0 Zu) mixed {} (fn:=Tryz.f279) Tryz.func279 (by kernel_rfl) (by kernel_rfl) ?_
 rintro ⟨c0,kind0,⟨⟩⟩ K ⟨r,h,hK⟩
 change ZqD c0 kind0=some r at h
 unfold ZqD at h
 conv=>whnf
 refine Ze h (fun c1_0 hb0 h=>?_)
 conv=>whnf
 cases h
 exact hK
theorem w49 (q4:Sq 292 c30) (q3:Sq 293 c43) (q2:Sq 294 c46) (q0:Sq 295 c48) (q1:Sq 278 c47) (q5:Sq 159 c23):Sq 275 c49:=by
 refine Zm ZL (Zg q4 (Zg q3 (Zg q2 (Zg q0 (Zg q1 (Zg q5 Zu)))))) mixed {draws:=[(2,[0,1,3,7,15,31,63,127,255,511,1023,2047,4095,8191,16383,32767,65535,32767,163839,524287,1048575,2097151,4194303,8388607,16777215,33554431,67108863,134217727,134217727,402653183,1073741823,2147483647,4294967295,8589934591,17179869183,8589934591,42949672959,137438953471,274877906943,549755813887],.op 0 (.op 1 (.op 2 (.op 3 (.op 4 (.op 5 (.op 6 (.op 7 (.op 8 (.op 9 (.op 10 (.op 11 (.alt 12 (.op 13 (.op 14 (.op 15 (.op 16 (.op 17 (.alt 18 (.op 19 (.op 20 (.op 21 (.op 22 (.op 23 (.op 24 (.op 25 (.op 26 (.op 27 (.op 28 (.op 29 (.alt 30 (.op 31 (.op 32 (.op 33 (.op 34 (.op 35 (.op 36 (.op 37 (.op 38 (.op 39 (.done)))))))))) (.done))))))))))))) (.done))))))) (.done)))))))))))))),(3,[0,1,3,7,15,31,63,127,255,511,1023,2047,4095,2047,10239,32767,65535,131071,262143,262143,786431,2097151,4194303,8388607],.op 0 (.op 1 (.alt 2 (.op 3 (.op 4 (.op 5 (.op 6 (.alt 7 (.op 8 (.op 9 (.op 10 (.op 11 (.op 12 (.op 13 (.alt 14 (.op 15 (.op 16 (.op 17 (.op 18 (.op 19 (.op 20 (.alt 21 (.op 22 (.op 23 (.done))) (.done)))))))) (.done)))))))) (.done)))))) (.done))))]} (fn:=Tryz.f275) Tryz.func275 (by kernel_rfl) (by kernel_rfl) ?_
 rintro ⟨a0,a1,⟨⟩⟩ K ⟨r,h,hK⟩
 change Zs9 a0 a1=some r at h
 unfold Zs9 at h
 conv=>whnf
 refine Ze h (fun isCheck0 hb0 h=>?_)
 conv=>whnf
 refine Qn h (fun h=>?_) (fun h=>?_)
 conv=>whnf
 refine ⟨by kernel_rfl,?_⟩
 conv=>whnf
 refine ZG h (fun h=>?_) (fun h=>?_)
 conv=>whnf
 refine ZG h (fun h=>?_) (fun h=>?_)
 conv=>whnf
 refine Ze h (fun areTables0 hb1 h=>?_)
 conv=>whnf
 refine Qn h (fun h=>?_) (fun h=>?_)
 conv=>whnf
 refine Ze h (fun clock0 hb2 h=>?_)
 conv=>whnf
 refine ZG h (fun h=>?_) (fun h=>?_)
 conv=>whnf
 refine ZG h (fun h=>?_) (fun h=>?_)
 conv=>whnf
 refine Ze h (fun isInput0 hb3 h=>?_)
 conv=>whnf
 refine Qn h (fun h=>?_) (fun h=>?_)
 conv=>whnf
 refine ⟨trivial,?_⟩
 conv=>whnf
 cases h
 exact hK
 conv=>whnf
 refine ⟨trivial,?_⟩
 conv=>whnf
 cases h
 exact hK
 conv=>whnf
 refine ⟨trivial,?_⟩
 conv=>whnf
 cases h
 exact hK
 conv=>whnf
 refine ⟨trivial,?_⟩
 conv=>whnf
 cases h
 exact hK
 conv=>whnf
 refine ⟨trivial,?_⟩
 conv=>whnf
 cases h
 exact hK
 conv=>whnf
 refine ⟨trivial,?_⟩
 conv=>whnf
 cases h
 exact hK
 conv=>whnf
 refine ⟨trivial,?_⟩
 conv=>whnf
 cases h
 exact hK
 conv=>whnf
 refine ⟨by kernel_rfl,?_⟩
 conv=>whnf
 refine Ze h (fun areTables0 hb4 h=>?_)
 conv=>whnf
 refine Zj4 ?_
 refine Qn h (fun h=>?_) (fun h=>?_)
 conv=>whnf
 refine Ze h (fun areTables1 hb5 h=>?_)
 conv=>whnf
 refine Zj4 ?_
 refine Qn h (fun h=>?_) (fun h=>?_)
 conv=>whnf
 refine Ze h (fun output0 hb6 h=>?_)
 conv=>whnf
 refine Zj4 ?_
 refine ZG h (fun h=>?_) (fun h=>?_)
 conv=>whnf
 refine Ze h (fun isInput0 hb7 h=>?_)
 conv=>whnf
 refine ⟨trivial,?_⟩
 conv=>whnf
 refine Yc ?_
 refine Qn h (fun h=>?_) (fun h=>?_)
 conv=>whnf
 refine ZG h (fun h=>?_) (fun h=>?_)
 conv=>whnf
 refine vAt h (fun x0 he8a he8b he8x h=>?_)
 conv=>whnf
 refine Yc ?_
 refine Qn h (fun h=>?_) (fun h=>?_)
 conv=>whnf
 cases h
 exact hK
 conv=>whnf
 refine Ze h (fun within0 hb9 h=>?_)
 conv=>whnf
 cases h
 exact hK
 conv=>whnf
 refine ZG h (fun h=>?_) (fun h=>?_)
 conv=>whnf
 refine ZG h (fun h=>?_) (fun h=>?_)
 conv=>whnf
 refine vAt h (fun x0 he10a he10b he10x h=>?_)
 conv=>whnf
 refine Qn h (fun h=>?_) (fun h=>?_)
 conv=>whnf
 cases h
 exact hK
 conv=>whnf
 cases h
 exact hK
 conv=>whnf
 cases h
 exact hK
 conv=>whnf
 refine ZG h (fun h=>?_) (fun h=>?_)
 conv=>whnf
 refine vAt h (fun x0 he11a he11b he11x h=>?_)
 conv=>whnf
 refine Qn h (fun h=>?_) (fun h=>?_)
 conv=>whnf
 cases h
 exact hK
 conv=>whnf
 cases h
 exact hK
 conv=>whnf
 cases h
 exact hK
 conv=>whnf
 cases h
 exact hK
 conv=>whnf
 refine ⟨trivial,?_⟩
 conv=>whnf
 cases h
 exact hK
 conv=>whnf
 refine ⟨trivial,?_⟩
 conv=>whnf
 cases h
 exact hK
 conv=>whnf
 refine ⟨trivial,?_⟩
 conv=>whnf
 cases h
 exact hK
theorem w48 (q0:Sq 278 c47) (q1:Sq 159 c23):Sq 295 c48:=by
 refine Zm ZL (Zg q0 (Zg q1 Zu)) mixed {} (fn:=Tryz.f295) Tryz.func295 (by kernel_rfl) (by kernel_rfl) ?_
 rintro ⟨c0,pin0,⟨⟩⟩ K ⟨r,h,hK⟩
 change Zrp c0 pin0=some r at h
 unfold Zrp at h
 conv=>whnf
 refine Ze h (fun output0 hb0 h=>?_)
 conv=>whnf
 refine Ze h (fun within0 hb1 h=>?_)
 conv=>whnf
 cases h
 exact hK
theorem w80:Sq 193 c80:=by
 refine Zm ZL Zu mixed {draws:=[(3,[0,1,0,4,0,16,60,124,252,511,1023,2047,0,4096,16383,32767,65535,131071],.op 0 (.op 1 (.op 2 (.op 3 (.op 4 (.op 5 (.op 6 (.op 7 (.op 8 (.op 9 (.op 10 (.op 11 (.op 12 (.op 13 (.op 14 (.op 15 (.op 16 (.op 17 (.done)))))))))))))))))))]} (fn:=Tryz.f193) Tryz.func193 (by kernel_rfl) (by kernel_rfl) ?_
 rintro ⟨d0,l0,p0,⟨⟩⟩ K ⟨r,h,hK⟩
 change ZEb d0 l0 p0=some r at h
 unfold ZEb at h
 conv=>whnf
 refine ZG h (fun h=>?_) (fun h=>?_)
 conv=>whnf
 cases h
 exact hK
 conv=>whnf
 refine ⟨by kernel_rfl,?_⟩
 conv=>whnf
 refine vAt h (fun x0 he0a he0b he0x h=>?_)
 conv=>whnf
 refine vAt h (fun x1 he1a he1b he1x h=>?_)
 conv=>whnf
 refine vAt h (fun x2 he2a he2b he2x h=>?_)
 conv=>whnf
 refine ⟨trivial,?_⟩
 conv=>whnf
 cases h
 exact hK
theorem w65 (q0:Sq 112 c64):Sq 217 c65:=by
 refine Zm ZL (Zg q0 Zu) mixed {} (fn:=Tryz.f217) Tryz.func217 (by kernel_rfl) (by kernel_rfl) ?_
 rintro ⟨net0,a0,⟨⟩⟩ K ⟨r,h,hK⟩
 change ZpX net0 a0=some r at h
 unfold ZpX at h
 conv=>whnf
 refine Ze h (fun isNet0 hb0 h=>?_)
 conv=>whnf
 cases h
 exact hK
theorem w73:Sq 83 c73:=by
 refine Zm ZL Zu mixed {loops:=[(0,[.reg 3 (.own (.ol 147 (.flat (ZjZ)))),.reg 13 (.dat Iq)]),(2,[.reg 3 (.own (.ol 147 (.flat (ZjZ)))),.reg 21 (.dat Iq)]),(4,[.reg 3 (.own (.ol 147 (.flat (ZjZ)))),.reg 44 (.dat Iq)])]} (fn:=Tryz.f83) Tryz.func83 (by kernel_rfl) (by kernel_rfl) ?_
 rintro ⟨d0,⟨⟩⟩ K ⟨r,h,hK⟩
 change Zpt d0=some r at h
 unfold Zpt at h
 conv=>whnf
 refine YH h ?_
 rintro I0 μ0 ⟨list0,v0,⟨⟩⟩ zs0 h hI0 hR0
 change Zrs d0 list0 v0=some zs0 at h
 unfold Zrs at h
 conv=>whnf
 refine ZG h (fun h=>?_) (fun h=>?_)
 conv=>whnf
 refine vAt h (fun x0 he1a he1b he1x h=>?_)
 conv=>whnf
 refine YH h ?_
 rintro I2 μ2 ⟨list1,v1,⟨⟩⟩ zs2 h hI2 hR2
 change Zrq v0 x0 list1 v1=some zs2 at h
 unfold Zrq at h
 conv=>whnf
 refine ZG h (fun h=>?_) (fun h=>?_)
 conv=>whnf
 refine vAt h (fun x1 he3a he3b he3x h=>?_)
 conv=>whnf
 refine Yk h (fun hp4 h=>?_)
 conv=>whnf
 cases h
 exact ⟨⟨rfl,rfl⟩,hI2 _ rfl⟩
 conv=>whnf
 cases h
 obtain rfl:=hR2 _ rfl
 exact ⟨⟨rfl,rfl⟩,hI0 _ rfl⟩
 conv=>whnf
 refine YH h ?_
 rintro I5 μ5 ⟨list1,v1,⟨⟩⟩ zs5 h hI5 hR5
 change Zrr d0 list1 v1=some zs5 at h
 unfold Zrr at h
 conv=>whnf
 refine ZG h (fun h=>?_) (fun h=>?_)
 conv=>whnf
 refine vAt h (fun x0 he6a he6b he6x h=>?_)
 conv=>whnf
 refine Yk h (fun hp7 h=>?_)
 conv=>whnf
 cases h
 exact ⟨⟨rfl,rfl⟩,hI5 _ rfl⟩
 conv=>whnf
 cases h
 obtain rfl:=hR5 _ rfl
 obtain rfl:=hR0 _ rfl
 exact hK
theorem w69:Sq 157 c69:=by
 refine Zm ZL Zu mixed {} (fn:=Tryz.f157) Tryz.func157 (by kernel_rfl) (by kernel_rfl) ?_
 rintro ⟨n0,⟨⟩⟩ K ⟨r,h,hK⟩
 change ZsD n0=some r at h
 unfold ZsD at h
 conv=>whnf
 cases h
 exact hK
theorem w83 (q1:Sq 54 c77) (q0:Sq 55 c82):Sq 15 c83:=by
 refine Zm ZL (Zg q1 (Zg q0 Zu)) mixed {} (fn:=Tryz.f15) Tryz.func15 (by kernel_rfl) (by kernel_rfl) ?_
 rintro ⟨b0,net0,⟨⟩⟩ K ⟨r,h,hK⟩
 change ZD1 b0 net0=some r at h
 unfold ZD1 at h
 conv=>whnf
 refine Ze h (fun netCode0 hb0 h=>?_)
 conv=>whnf
 refine Yc ?_
 refine ZG h (fun h=>?_) (fun h=>?_)
 conv=>whnf
 refine Ze h (fun nodeDelays0 hb1 h=>?_)
 conv=>whnf
 cases h
 exact hK
 conv=>whnf
 cases h
 exact hK
theorem w32 (q0:Sq 159 c23):Sq 190 c32:=by
 refine Zm ZL (Zg q0 Zu) mixed {} (fn:=Tryz.f190) Tryz.func190 (by kernel_rfl) (by kernel_rfl) ?_
 rintro ⟨n0,a0,a1,⟨⟩⟩ K ⟨r,h,hK⟩
 change XH n0 a0 a1=some r at h
 unfold XH at h
 conv=>whnf
 refine Ze h (fun within0 hb0 h=>?_)
 conv=>whnf
 cases h
 exact hK
theorem ZF4 (q0:Sq 134 c78):Sq 234 c127:=by
 refine Zm VX (Zg q0 Zu) mixed {loops:=[(0,[.reg 3 (.own (.ol 322 (ZeG))),.reg 8 (.dat Iq)])],draws:=[(5,[0,0,2,6,0,16,62,0,128,510,1022,2046,4095,8191],.op 0 (.op 1 (.op 2 (.op 4 (.op 5 (.op 7 (.op 8 (.alt 3 (.alt 6 (.alt 9 (.op 10 (.alt 11 (.alt 12 (.op 13 (.done)) (.done)) (.done))) (.done)) (.done)) (.done)))))))))]} (fn:=Tryz.f234) Tryz.func234 (by kernel_rfl) (by kernel_rfl) ?_
 rintro ⟨list0,⟨⟩⟩ K ⟨r,h,hK⟩
 change ZrO list0=some r at h
 unfold ZrO at h
 conv=>whnf
 refine YH h ?_
 rintro I0 μ0 ⟨out0,v0,⟨⟩⟩ zs0 h hI0 hR0
 change ZqZ list0 out0 v0=some zs0 at h
 unfold ZqZ at h
 conv=>whnf
 intro fp1
 conv=>whnf
 refine ZG h (fun h=>?_) (fun h=>?_)
 conv=>whnf
 refine vAt h (fun x0 he2a he2b he2x h=>?_)
 conv=>whnf
 refine ⟨by kernel_rfl,?_⟩
 conv=>whnf
 refine Ze h (fun int64_0 hb3 h=>?_)
 conv=>whnf
 refine Ze h (fun int64_1 hb4 h=>?_)
 conv=>whnf
 refine Ze h (fun int64_2 hb5 h=>?_)
 conv=>whnf
 intro fp6
 conv=>whnf
 refine Yk h (fun hp7 h=>?_)
 conv=>whnf
 intro fp8
 conv=>whnf
 refine ⟨trivial,?_⟩
 conv=>whnf
 cases h
 exact ⟨⟨rfl,rfl⟩,hI0 _ rfl⟩
 conv=>whnf
 cases h
 obtain rfl:=hR0 _ rfl
 exact hK
theorem ZFT (q0:Sq 243 ZA3):Sq 210 ZA4:=by
 refine Zm ZL (Zg q0 Zu) mixed {} (fn:=Tryz.f210) Tryz.func210 (by kernel_rfl) (by kernel_rfl) ?_
 rintro ⟨a0,b0,⟨⟩⟩ K ⟨r,h,hK⟩
 change ZtT a0 b0=some r at h
 unfold ZtT at h
 conv=>whnf
 refine ZG h (fun h=>?_) (fun h=>?_)
 conv=>whnf
 refine Ze h (fun c1_0 hb0 h=>?_)
 conv=>whnf
 cases h
 exact hK
 conv=>whnf
 cases h
 exact hK
theorem w25:Sq 274 c25:=by
 refine Zm ZL Zu mixed {} (fn:=Tryz.f274) Tryz.func274 (by kernel_rfl) (by kernel_rfl) ?_
 rintro ⟨list0,⟨⟩⟩ K ⟨r,h,hK⟩
 change Zri list0=some r at h
 unfold Zri at h
 conv=>whnf
 cases h
 exact hK
theorem ZFM:Sq 265 ZAv:=by
 refine Zm ZL Zu mixed {loops:=[(0,[.reg 13 (.dat Iq)])],draws:=[(6,[0,0,3,7,0,0,48,112,255],.op 0 (.op 1 (.op 2 (.op 3 (.op 4 (.op 5 (.op 6 (.op 7 (.op 8 (.done))))))))))]} (fn:=Tryz.f265) Tryz.func265 (by kernel_rfl) (by kernel_rfl) ?_
 rintro ⟨s1_0,s2_0,⟨⟩⟩ K ⟨r,h,hK⟩
 change ZpL s1_0 s2_0=some r at h
 unfold ZpL at h
 conv=>whnf
 refine Yc ?_
 refine ZG h (fun h=>?_) (fun h=>?_)
 conv=>whnf
 refine YH h ?_
 rintro I0 μ0 ⟨v0,⟨⟩⟩ zs0 h hI0 hR0
 change Zqr s1_0 s2_0 v0=some zs0 at h
 unfold Zqr at h
 conv=>whnf
 refine ZG h (fun h=>?_) (fun h=>?_)
 conv=>whnf
 refine ⟨by kernel_rfl,?_⟩
 conv=>whnf
 refine vAt h (fun x0 he1a he1b he1x h=>?_)
 conv=>whnf
 refine vAt h (fun x1 he2a he2b he2x h=>?_)
 conv=>whnf
 refine ⟨trivial,?_⟩
 conv=>whnf
 refine Yc ?_
 refine ZG h (fun h=>?_) (fun h=>?_)
 conv=>whnf
 cases h
 exact ⟨⟨rfl,rfl⟩,hI0 _ rfl⟩
 conv=>whnf
 cases h
 obtain rfl:=hR0 _ rfl
 exact hK
 conv=>whnf
 cases h
 obtain rfl:=hR0 _ rfl
 exact hK
 conv=>whnf
 cases h
 exact hK
theorem w33 (q0:Sq 190 c32):Sq 231 c33:=by
 refine Zm ZL (Zg q0 Zu) mixed {loops:=[(0,[.reg 8 (.dat Iq)])]} (fn:=Tryz.f231) Tryz.func231 (by kernel_rfl) (by kernel_rfl) ?_
 rintro ⟨s0,f0,⟨⟩⟩ K ⟨r,h,hK⟩
 change Zq s0 f0=some r at h
 unfold Zq at h
 conv=>whnf
 refine YH h ?_
 rintro I0 μ0 ⟨v0,⟨⟩⟩ zs0 h hI0 hR0
 change Zr s0 f0 v0=some zs0 at h
 unfold Zr at h
 conv=>whnf
 refine ZG h (fun h=>?_) (fun h=>?_)
 conv=>whnf
 refine vAt h (fun x0 he1a he1b he1x h=>?_)
 conv=>whnf
 refine Ze h (fun c1_0 hb2 h=>?_)
 conv=>whnf
 refine Qn h (fun h=>?_) (fun h=>?_)
 conv=>whnf
 cases h
 obtain rfl:=hR0 _ rfl
 exact hK
 conv=>whnf
 cases h
 exact ⟨⟨rfl,rfl⟩,hI0 _ rfl⟩
 conv=>whnf
 cases h
 obtain rfl:=hR0 _ rfl
 exact hK
theorem w97 (q0:Sq 176 c94) (q1:Sq 177 c95) (q2:Sq 178 c96):Sq 95 c97:=by
 refine Zm ZL (Zg q0 (Zg q1 (Zg q2 Zu))) mixed {loops:=[(0,[.reg 5 (.own (.ol 9 (.flat (.str)))),.reg 6 (.dat Iq)]),(2,[.reg 7 (.own (.ol 9 (.flat (.str)))),.reg 8 (.dat Iq)]),(4,[.reg 10 (.dat Iq),.ent 6 (nat_lit 2) (.flat Znz.ety)]),(6,[.reg 12 (.dat Iq),.ent 6 (nat_lit 2) (.flat Znz.ety)]),(8,[.reg 13 (.dat Iq)])]} (fn:=Tryz.f95) Tryz.func95 (by kernel_rfl) (by kernel_rfl) ?_
 rintro ⟨a0,a1,⟨⟩⟩ K ⟨r,h,hK⟩
 change ZtW a0 a1=some r at h
 unfold ZtW at h
 conv=>whnf
 refine Ze h (fun IsLibrary0 hb0 h=>?_)
 conv=>whnf
 refine Zj4 ?_
 refine Qn h (fun h=>?_) (fun h=>?_)
 conv=>whnf
 refine ZcV h (fun h=>?_) (fun h=>?_)
 conv=>whnf
 cases h
 exact hK
 conv=>whnf
 refine ZcV h (fun h=>?_) (fun h=>?_)
 conv=>whnf
 cases h
 exact hK
 conv=>whnf
 refine ZcV h (fun h=>?_) (fun h=>?_)
 conv=>whnf
 cases h
 exact hK
 conv=>whnf
 refine Ze h (fun l05Parts0 hb1 h=>?_)
 conv=>whnf
 refine Yc ?_
 refine Qn h (fun h=>?_) (fun h=>?_)
 conv=>whnf
 refine YH h ?_
 rintro I2 μ2 ⟨v0,v1,⟨⟩⟩ zs2 h hI2 hR2
 change ZsP a1 v0 v1=some zs2 at h
 unfold ZsP at h
 conv=>whnf
 refine ZG h (fun h=>?_) (fun h=>?_)
 conv=>whnf
 refine vAt h (fun x0 he3a he3b he3x h=>?_)
 conv=>whnf
 refine Yk h (fun hp4 h=>?_)
 conv=>whnf
 cases h
 exact ⟨⟨rfl,rfl⟩,hI2 _ rfl⟩
 conv=>whnf
 refine YH h ?_
 rintro I5 μ5 ⟨v2,v3,⟨⟩⟩ zs5 h hI5 hR5
 change ZsO a1 v0 v2 v3=some zs5 at h
 unfold ZsO at h
 conv=>whnf
 refine ZG h (fun h=>?_) (fun h=>?_)
 conv=>whnf
 refine vAt h (fun x0 he6a he6b he6x h=>?_)
 conv=>whnf
 refine Yk h (fun hp7 h=>?_)
 conv=>whnf
 cases h
 exact ⟨⟨rfl,rfl⟩,hI5 _ rfl⟩
 conv=>whnf
 refine Ze h (fun l05Names0 hb8 h=>?_)
 conv=>whnf
 refine Zj4 ?_
 refine Qn h (fun h=>?_) (fun h=>?_)
 conv=>whnf
 refine Ze h (fun l05Names1 hb9 h=>?_)
 conv=>whnf
 refine Zj4 ?_
 refine Qn h (fun h=>?_) (fun h=>?_)
 conv=>whnf
 refine Ze h (fun l05Names2 hb10 h=>?_)
 conv=>whnf
 refine Yc ?_
 refine Qn h (fun h=>?_) (fun h=>?_)
 conv=>whnf
 refine Yk h (fun hp11 h=>?_)
 conv=>whnf
 refine Yk h (fun hp12 h=>?_)
 conv=>whnf
 refine Yk h (fun hp13 h=>?_)
 conv=>whnf
 refine Yk h (fun hp14 h=>?_)
 conv=>whnf
 refine YH h ?_
 rintro I15 μ15 ⟨v4,l0,⟨⟩⟩ zs15 h hI15 hR15
 change ZqU a1 v4 l0=some zs15 at h
 unfold ZqU at h
 conv=>whnf
 refine ZG h (fun h=>?_) (fun h=>?_)
 conv=>whnf
 refine vAt h (fun x0 he16a he16b he16x h=>?_)
 conv=>whnf
 refine vAt h (fun x1 he17a he17b he17x h=>?_)
 conv=>whnf
 refine vAt h (fun x2 he18a he18b he18x h=>?_)
 conv=>whnf
 refine ⟨by kernel_rfl,?_⟩
 conv=>whnf
 refine ⟨he18a,he18b,Zh he18x ?_⟩
 conv=>whnf
 refine ⟨he18a,he18b,Zh he18x ?_⟩
 conv=>whnf
 refine ⟨by kernel_rfl,?_⟩
 conv=>whnf
 refine ⟨by decide,?_⟩
 conv=>whnf
 refine ⟨he18a,he18b,Zh he18x ?_⟩
 conv=>whnf
 cases h
 exact ⟨⟨rfl,rfl⟩,hI15 _ rfl⟩
 conv=>whnf
 refine YH h ?_
 rintro I19 μ19 ⟨v5,l1,⟨⟩⟩ zs19 h hI19 hR19
 change ZqT a1 v5 l1=some zs19 at h
 unfold ZqT at h
 conv=>whnf
 refine ZG h (fun h=>?_) (fun h=>?_)
 conv=>whnf
 refine vAt h (fun x0 he20a he20b he20x h=>?_)
 conv=>whnf
 refine ZG h (fun h=>?_) (fun h=>?_)
 conv=>whnf
 refine ⟨he20a,he20b,Zh he20x ?_⟩
 conv=>whnf
 refine vAt h (fun x1 he21a he21b he21x h=>?_)
 conv=>whnf
 refine ⟨by kernel_rfl,?_⟩
 conv=>whnf
 refine ⟨he21a,he21b,Zh he21x ?_⟩
 conv=>whnf
 refine ⟨he21a,he21b,Zh he21x ?_⟩
 conv=>whnf
 refine ⟨by kernel_rfl,?_⟩
 conv=>whnf
 refine ⟨by decide,?_⟩
 conv=>whnf
 refine ⟨he21a,he21b,Zh he21x ?_⟩
 conv=>whnf
 cases h
 exact ⟨⟨rfl,rfl⟩,hI19 _ rfl⟩
 conv=>whnf
 cases h
 exact ⟨⟨rfl,rfl⟩,hI19 _ rfl⟩
 conv=>whnf
 refine YH h ?_
 rintro I22 μ22 ⟨v6,⟨⟩⟩ zs22 h hI22 hR22
 change ZsN l1 v6=some zs22 at h
 unfold ZsN at h
 conv=>whnf
 refine ZG h (fun h=>?_) (fun h=>?_)
 conv=>whnf
 refine vAt h (fun x0 he23a he23b he23x h=>?_)
 conv=>whnf
 refine ⟨by kernel_rfl,?_⟩
 conv=>whnf
 refine ⟨he23a,he23b,Zh he23x ?_⟩
 conv=>whnf
 refine Yc ?_
 refine ZG h (fun h=>?_) (fun h=>?_)
 conv=>whnf
 cases h
 exact ⟨⟨rfl,rfl⟩,hI22 _ rfl⟩
 conv=>whnf
 cases h
 obtain rfl:=hR22 _ rfl
 obtain rfl:=hR19 _ rfl
 obtain rfl:=hR15 _ rfl
 obtain rfl:=hR5 _ rfl
 obtain rfl:=hR2 _ rfl
 exact hK
 conv=>whnf
 cases h
 obtain rfl:=hR22 _ rfl
 obtain rfl:=hR19 _ rfl
 obtain rfl:=hR15 _ rfl
 obtain rfl:=hR5 _ rfl
 obtain rfl:=hR2 _ rfl
 exact hK
 conv=>whnf
 cases h
 obtain rfl:=hR5 _ rfl
 obtain rfl:=hR2 _ rfl
 exact hK
 conv=>whnf
 cases h
 obtain rfl:=hR5 _ rfl
 obtain rfl:=hR2 _ rfl
 exact hK
 conv=>whnf
 cases h
 obtain rfl:=hR5 _ rfl
 obtain rfl:=hR2 _ rfl
 exact hK
 conv=>whnf
 cases h
 exact hK
 conv=>whnf
 cases h
 exact hK
theorem w98 (q0:Sq 114 c85):Sq 144 c98:=by
 refine Zm ZL (Zg q0 Zu) mixed {loops:=[(0,[.reg 6 (.dat Iq)]),(2,[.reg 7 (.dat Iq)])]} (fn:=Tryz.f144) Tryz.func144 (by kernel_rfl) (by kernel_rfl) ?_
 rintro ⟨a0,a1,⟨⟩⟩ K ⟨r,h,hK⟩
 change Zui a0 a1=some r at h
 unfold Zui at h
 conv=>whnf
 refine ZcV h (fun h=>?_) (fun h=>?_)
 conv=>whnf
 cases h
 exact hK
 conv=>whnf
 refine ZcV h (fun h=>?_) (fun h=>?_)
 conv=>whnf
 cases h
 exact hK
 conv=>whnf
 refine Zj4 ?_
 refine ZG h (fun h=>?_) (fun h=>?_)
 conv=>whnf
 refine Zj4 ?_
 refine ZG h (fun h=>?_) (fun h=>?_)
 conv=>whnf
 refine Yc ?_
 refine ZG h (fun h=>?_) (fun h=>?_)
 conv=>whnf
 refine YH h ?_
 rintro I0 μ0 ⟨v0,⟨⟩⟩ zs0 h hI0 hR0
 change Ztu a0 v0=some zs0 at h
 unfold Ztu at h
 conv=>whnf
 refine ZG h (fun h=>?_) (fun h=>?_)
 conv=>whnf
 refine vAt h (fun x0 he1a he1b he1x h=>?_)
 conv=>whnf
 refine Ze h (fun l01In0 hb2 h=>?_)
 conv=>whnf
 refine Zj4 ?_
 refine Qn h (fun h=>?_) (fun h=>?_)
 conv=>whnf
 refine vAt h (fun x1 he3a he3b he3x h=>?_)
 conv=>whnf
 refine Ze h (fun l01In1 hb4 h=>?_)
 conv=>whnf
 refine Yc ?_
 refine Qn h (fun h=>?_) (fun h=>?_)
 conv=>whnf
 refine ZG h (fun h=>?_) (fun h=>?_)
 conv=>whnf
 refine vAt h (fun x2 he5a he5b he5x h=>?_)
 conv=>whnf
 refine Zj4 ?_
 refine ZG h (fun h=>?_) (fun h=>?_)
 conv=>whnf
 refine ⟨he3a,he3b,Zh he3x ?_⟩
 conv=>whnf
 refine Zj4 ?_
 refine ZG h (fun h=>?_) (fun h=>?_)
 conv=>whnf
 refine ZG h (fun h=>?_) (fun h=>?_)
 conv=>whnf
 refine ⟨he5a,he5b,Zh he5x ?_⟩
 conv=>whnf
 refine Ze h (fun l01In2 hb6 h=>?_)
 conv=>whnf
 refine Yc ?_
 refine Qn h (fun h=>?_) (fun h=>?_)
 conv=>whnf
 cases h
 exact ⟨⟨rfl,rfl⟩,hI0 _ rfl⟩
 conv=>whnf
 cases h
 obtain rfl:=hR0 _ rfl
 exact hK
 conv=>whnf
 cases h
 exact ⟨⟨rfl,rfl⟩,hI0 _ rfl⟩
 conv=>whnf
 cases h
 obtain rfl:=hR0 _ rfl
 exact hK
 conv=>whnf
 cases h
 obtain rfl:=hR0 _ rfl
 exact hK
 conv=>whnf
 refine ZG h (fun h=>?_) (fun h=>?_)
 conv=>whnf
 refine vAt h (fun x2 he7a he7b he7x h=>?_)
 conv=>whnf
 refine Ze h (fun l01In2 hb8 h=>?_)
 conv=>whnf
 refine Yc ?_
 refine Qn h (fun h=>?_) (fun h=>?_)
 conv=>whnf
 cases h
 exact ⟨⟨rfl,rfl⟩,hI0 _ rfl⟩
 conv=>whnf
 cases h
 obtain rfl:=hR0 _ rfl
 exact hK
 conv=>whnf
 cases h
 exact ⟨⟨rfl,rfl⟩,hI0 _ rfl⟩
 conv=>whnf
 cases h
 obtain rfl:=hR0 _ rfl
 exact hK
 conv=>whnf
 cases h
 obtain rfl:=hR0 _ rfl
 exact hK
 conv=>whnf
 refine YH h ?_
 rintro I9 μ9 ⟨v1,⟨⟩⟩ zs9 h hI9 hR9
 change Ztt a0 v1=some zs9 at h
 unfold Ztt at h
 conv=>whnf
 refine ZG h (fun h=>?_) (fun h=>?_)
 conv=>whnf
 refine vAt h (fun x0 he10a he10b he10x h=>?_)
 conv=>whnf
 refine Ze h (fun l01In0 hb11 h=>?_)
 conv=>whnf
 refine Yc ?_
 refine Qn h (fun h=>?_) (fun h=>?_)
 conv=>whnf
 cases h
 exact ⟨⟨rfl,rfl⟩,hI9 _ rfl⟩
 conv=>whnf
 cases h
 obtain rfl:=hR9 _ rfl
 obtain rfl:=hR0 _ rfl
 exact hK
 conv=>whnf
 cases h
 obtain rfl:=hR9 _ rfl
 obtain rfl:=hR0 _ rfl
 exact hK
 conv=>whnf
 cases h
 exact hK
 conv=>whnf
 cases h
 exact hK
 conv=>whnf
 cases h
 exact hK
theorem w7 (q1:Sq 44 c2) (q0:Sq 286 c6):Sq 264 c7:=by
 refine Zm VX (Zg q1 (Zg q0 Zu)) mixed {} (fn:=Tryz.f264) Tryz.func264 (by kernel_rfl) (by kernel_rfl) ?_
 rintro ⟨s0,kind0,from0,to0,sense0,⟨⟩⟩ K ⟨r,h,hK⟩
 change Yf s0 kind0 from0 to0 sense0=some r at h
 unfold Yf at h
 conv=>whnf
 refine ZG h (fun h=>?_) (fun h=>?_)
 conv=>whnf
 refine Ze h (fun l01Next0 hb0 h=>?_)
 conv=>whnf
 refine Ze h (fun l03DrawTables0 hb1 h=>?_)
 conv=>whnf
 intro fp2
 conv=>whnf
 cases h
 exact hK
 conv=>whnf
 refine Ze h (fun l01Next0 hb3 h=>?_)
 conv=>whnf
 refine Ze h (fun l03DrawTables0 hb4 h=>?_)
 conv=>whnf
 intro fp5
 conv=>whnf
 refine Ze h (fun l03DrawTables1 hb6 h=>?_)
 conv=>whnf
 intro fp7
 conv=>whnf
 cases h
 exact hK
theorem w6 (q0:Sq 301 c5):Sq 286 c6:=by
 refine Zm VX (Zg q0 Zu) mixed {draws:=[(2,[0,0,0,6,15,31],.op 1 (.op 2 (.alt 0 (.alt 3 (.alt 4 (.op 5 (.done)) (.done)) (.done)) (.alt 3 (.alt 0 (.alt 4 (.op 5 (.done)) (.done)) (.done)) (.done)))))]} (fn:=Tryz.f286) Tryz.func286 (by kernel_rfl) (by kernel_rfl) ?_
 rintro ⟨s0,base0,⟨⟩⟩ K ⟨r,h,hK⟩
 change Z7 s0 base0=some r at h
 unfold Z7 at h
 focus
  conv=>whnf
  refine Ze h (fun l02Draw0 hb0 h=>?_)
  conv=>whnf
  refine ⟨by kernel_rfl,?_⟩
  conv=>whnf
  obtain ⟨l02Draw1,hb1,h⟩:=Option.bind_eq_some_iff.1 h
  refine ⟨?_,?_⟩
  rotate_left
  focus
   conv=>whnf
   refine ⟨_,hb1,?_⟩
   conv=>whnf
   intro fp3
   conv=>whnf
   refine ⟨trivial,?_⟩
  rotate_right
  focus
   conv=>whnf
   refine ⟨_,hb1,?_⟩
   conv=>whnf
   intro fp3
   conv=>whnf
   refine ⟨trivial,?_⟩
  all_goals
   conv=>whnf
   cases h
   exact hK
theorem w95 (q0:Sq 114 c85):Sq 177 c95:=by
 refine Zm ZL (Zg q0 Zu) mixed {loops:=[(0,[.reg 6 (.dat Iq)]),(2,[.reg 8 (.dat Iq)]),(4,[.reg 9 (.dat Iq)])],draws:=[(6,[0,1,0,4,12,28,63,127,255,511,1023,2047,511,4607,511,16895,61951,127487,258559,520703,1048575,2097151],.op 0 (.op 1 (.op 2 (.op 3 (.op 4 (.op 5 (.alt 6 (.op 7 (.op 8 (.op 9 (.op 10 (.op 11 (.op 12 (.op 13 (.op 14 (.op 15 (.op 16 (.op 17 (.op 18 (.op 19 (.op 20 (.op 21 (.done)))))))))))))))) (.done))))))))]} (fn:=Tryz.f177) Tryz.func177 (by kernel_rfl) (by kernel_rfl) ?_
 rintro ⟨a0,a1,⟨⟩⟩ K ⟨r,h,hK⟩
 change ZtZ a0 a1=some r at h
 unfold ZtZ at h
 conv=>whnf
 refine YH h ?_
 rintro I0 μ0 ⟨v0,⟨⟩⟩ zs0 h hI0 hR0
 change ZsV a0 a1 v0=some zs0 at h
 unfold ZsV at h
 conv=>whnf
 refine ZG h (fun h=>?_) (fun h=>?_)
 conv=>whnf
 refine vAt h (fun x0 he1a he1b he1x h=>?_)
 conv=>whnf
 refine ⟨by kernel_rfl,?_⟩
 conv=>whnf
 refine Ze h (fun l01In0 hb2 h=>?_)
 conv=>whnf
 refine Zj4 ?_
 refine Qn h (fun h=>?_) (fun h=>?_)
 conv=>whnf
 refine vAt h (fun x1 he3a he3b he3x h=>?_)
 conv=>whnf
 refine ⟨trivial,?_⟩
 conv=>whnf
 refine Yc ?_
 refine ZG h (fun h=>?_) (fun h=>?_)
 conv=>whnf
 refine YH h ?_
 rintro I4 μ4 ⟨v1,⟨⟩⟩ zs4 h hI4 hR4
 change ZsT a1 v0 x0 v1=some zs4 at h
 unfold ZsT at h
 conv=>whnf
 refine ZG h (fun h=>?_) (fun h=>?_)
 conv=>whnf
 refine vAt h (fun x2 he5a he5b he5x h=>?_)
 conv=>whnf
 refine Ze h (fun l01In1 hb6 h=>?_)
 conv=>whnf
 refine Yc ?_
 refine Qn h (fun h=>?_) (fun h=>?_)
 conv=>whnf
 cases h
 exact ⟨⟨rfl,rfl⟩,hI4 _ rfl⟩
 conv=>whnf
 cases h
 obtain rfl:=hR4 _ rfl
 obtain rfl:=hR0 _ rfl
 exact hK
 conv=>whnf
 cases h
 obtain rfl:=hR4 _ rfl
 exact ⟨⟨rfl,rfl⟩,hI0 _ rfl⟩
 conv=>whnf
 cases h
 obtain rfl:=hR0 _ rfl
 exact hK
 conv=>whnf
 refine ⟨trivial,?_⟩
 conv=>whnf
 cases h
 obtain rfl:=hR0 _ rfl
 exact hK
 conv=>whnf
 refine YH h ?_
 rintro I7 μ7 ⟨v1,⟨⟩⟩ zs7 h hI7 hR7
 change ZsU a1 v1=some zs7 at h
 unfold ZsU at h
 conv=>whnf
 refine ZG h (fun h=>?_) (fun h=>?_)
 conv=>whnf
 refine vAt h (fun x0 he8a he8b he8x h=>?_)
 conv=>whnf
 refine Ze h (fun l01In0 hb9 h=>?_)
 conv=>whnf
 refine Zj4 ?_
 refine Qn h (fun h=>?_) (fun h=>?_)
 conv=>whnf
 refine ⟨he8a,he8b,Zh he8x ?_⟩
 conv=>whnf
 refine Ze h (fun l01In1 hb10 h=>?_)
 conv=>whnf
 refine Yc ?_
 refine Qn h (fun h=>?_) (fun h=>?_)
 conv=>whnf
 cases h
 exact ⟨⟨rfl,rfl⟩,hI7 _ rfl⟩
 conv=>whnf
 cases h
 obtain rfl:=hR7 _ rfl
 obtain rfl:=hR0 _ rfl
 exact hK
 conv=>whnf
 cases h
 obtain rfl:=hR7 _ rfl
 obtain rfl:=hR0 _ rfl
 exact hK
 conv=>whnf
 cases h
 obtain rfl:=hR7 _ rfl
 obtain rfl:=hR0 _ rfl
 exact hK
theorem w20 (q0:Sq 44 c2):Sq 111 c20:=by
 refine Zm ZL (Zg q0 Zu) mixed {draws:=[(2,[0,1,3,7,0,16,63,127,255],.op 0 (.op 4 (.alt 1 (.op 2 (.alt 3 (.alt 5 (.op 6 (.op 7 (.op 8 (.done)))) (.done)) (.alt 5 (.alt 3 (.op 6 (.op 7 (.op 8 (.done)))) (.done)) (.done)))) (.alt 5 (.alt 1 (.op 2 (.alt 3 (.op 6 (.op 7 (.op 8 (.done)))) (.done))) (.done)) (.done)))))]} (fn:=Tryz.f111) Tryz.func111 (by kernel_rfl) (by kernel_rfl) ?_
 rintro ⟨s0,b0,⟨⟩⟩ K ⟨r,h,hK⟩
 change ZEg s0 b0=some r at h
 unfold ZEg at h
 conv=>whnf
 refine Ze h (fun l01Next0 hb0 h=>?_)
 conv=>whnf
 refine ZG h (fun h=>?_) (fun h=>?_)
 focus
  conv=>whnf
  refine ⟨by kernel_rfl,?_⟩
  conv=>whnf
  obtain ⟨l01Next1,hb1,h⟩:=Option.bind_eq_some_iff.1 h
  obtain ⟨x0,he2a,he2b,he2x,h⟩:=atE h
  refine ⟨?_,?_⟩
  rotate_left
  focus
   conv=>whnf
   refine ⟨_,hb1,?_⟩
   conv=>whnf
   refine ⟨he2a,he2b,Zh he2x ?_⟩
   conv=>whnf
   refine ⟨by kernel_rfl,?_⟩
   conv=>whnf
   refine ⟨he2a,he2b,Zh he2x ?_⟩
   conv=>whnf
   refine ⟨trivial,?_⟩
  rotate_right
  focus
   conv=>whnf
   refine ⟨?_,?_⟩
   rotate_left
   focus
    conv=>whnf
    refine ⟨_,hb1,?_⟩
    conv=>whnf
    refine ⟨he2a,he2b,Zh he2x ?_⟩
    conv=>whnf
    refine ⟨by kernel_rfl,?_⟩
    conv=>whnf
    refine ⟨he2a,he2b,Zh he2x ?_⟩
    conv=>whnf
    refine ⟨trivial,?_⟩
   rotate_right
   focus
    conv=>whnf
    refine ⟨_,hb1,?_⟩
    conv=>whnf
    refine ⟨he2a,he2b,Zh he2x ?_⟩
    conv=>whnf
    refine ⟨by kernel_rfl,?_⟩
    conv=>whnf
    refine ⟨he2a,he2b,Zh he2x ?_⟩
    conv=>whnf
    refine ⟨trivial,?_⟩
  all_goals
   conv=>whnf
   cases h
   exact hK
 conv=>whnf
 refine Ze h (fun l01Next1 hb3 h=>?_)
 conv=>whnf
 cases h
 exact hK
end Go.Proofs.YtnnbgbgapogckaaGreatDoor
