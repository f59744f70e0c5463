/-
  The functions keep their contracts, if what they call does. Printed by program.
-/
import Derived.Test.YtnnbgbgapogckaaGreatDoorM
import Derived.KernelRfl
namespace Go.Proofs.YtnnbgbgapogckaaGreatDoor
open Go Go.Sx
set_option maxRecDepth 100000
set_option maxHeartbeats 6400000
set_option linter.unusedVariables false
set_option linter.unusedSimpArgs false
theorem ZFN:Sq 241 c109:=by
 refine Zm ZL Zu mixed {} (fn:=Tryz.f241) Tryz.func241 (by kernel_rfl) (by kernel_rfl) ?_
 rintro ⟨a0,⟨⟩⟩ K ⟨r,h,hK⟩
 change ZGM a0=some r at h
 unfold ZGM at h
 conv=>whnf
 refine ZG h (fun h=>?_) (fun h=>?_)
 conv=>whnf
 cases h
 exact hK
 conv=>whnf
 refine ZG h (fun h=>?_) (fun h=>?_)
 conv=>whnf
 cases h
 exact hK
 conv=>whnf
 refine Yc ?_
 refine ZG h (fun h=>?_) (fun h=>?_)
 conv=>whnf
 refine ZG h (fun h=>?_) (fun h=>?_)
 conv=>whnf
 cases h
 exact hK
 conv=>whnf
 refine ZG h (fun h=>?_) (fun h=>?_)
 conv=>whnf
 cases h
 exact hK
 conv=>whnf
 cases h
 exact hK
 conv=>whnf
 cases h
 exact hK
theorem w82:Sq 277 c82:=by
 refine Zm ZL Zu mixed {} (fn:=Tryz.f277) Tryz.func277 (by kernel_rfl) (by kernel_rfl) ?_
 rintro ⟨o0,a0,⟨⟩⟩ K ⟨r,h,hK⟩
 change Zqi o0 a0=some r at h
 unfold Zqi at h
 conv=>whnf
 refine ZG h (fun h=>?_) (fun h=>?_)
 conv=>whnf
 refine ZG h (fun h=>?_) (fun h=>?_)
 conv=>whnf
 cases h
 exact hK
 conv=>whnf
 cases h
 exact hK
 conv=>whnf
 cases h
 exact hK
theorem w81 (q4:Sq 292 c62) (q3:Sq 293 c75) (q2:Sq 294 c78) (q0:Sq 295 c80) (q1:Sq 278 c79) (q5:Sq 159 c55):Sq 275 c81:=by
 refine Zm ZL (Zg q4 (Zg q3 (Zg q2 (Zg q0 (Zg q1 (Zg q5 Zu)))))) mixed {draws:=[(2,[0,1,3,7,15,31,63,127,255,511,1023,2047,4095,8191,16383,32767,65535,32767,163839,524287,1048575,2097151,4194303,8388607,16777215,33554431,67108863,134217727,134217727,402653183,1073741823,2147483647,4294967295,8589934591,17179869183,8589934591,42949672959,137438953471,274877906943,549755813887],.op 0 (.op 1 (.op 2 (.op 3 (.op 4 (.op 5 (.op 6 (.op 7 (.op 8 (.op 9 (.op 10 (.op 11 (.alt 12 (.op 13 (.op 14 (.op 15 (.op 16 (.op 17 (.alt 18 (.op 19 (.op 20 (.op 21 (.op 22 (.op 23 (.op 24 (.op 25 (.op 26 (.op 27 (.op 28 (.op 29 (.alt 30 (.op 31 (.op 32 (.op 33 (.op 34 (.op 35 (.op 36 (.op 37 (.op 38 (.op 39 (.done)))))))))) (.done))))))))))))) (.done))))))) (.done)))))))))))))),(3,[0,1,3,7,15,31,63,127,255,511,1023,2047,4095,2047,10239,32767,65535,131071,262143,262143,786431,2097151,4194303,8388607],.op 0 (.op 1 (.alt 2 (.op 3 (.op 4 (.op 5 (.op 6 (.alt 7 (.op 8 (.op 9 (.op 10 (.op 11 (.op 12 (.op 13 (.alt 14 (.op 15 (.op 16 (.op 17 (.op 18 (.op 19 (.op 20 (.alt 21 (.op 22 (.op 23 (.done))) (.done)))))))) (.done)))))))) (.done)))))) (.done))))]} (fn:=Tryz.f275) Tryz.func275 (by kernel_rfl) (by kernel_rfl) ?_
 rintro ⟨a0,a1,⟨⟩⟩ K ⟨r,h,hK⟩
 change Zs9 a0 a1=some r at h
 unfold Zs9 at h
 conv=>whnf
 refine Ze h (fun isCheck0 hb0 h=>?_)
 conv=>whnf
 refine Qn h (fun h=>?_) (fun h=>?_)
 conv=>whnf
 refine ⟨by kernel_rfl,?_⟩
 conv=>whnf
 refine ZG h (fun h=>?_) (fun h=>?_)
 conv=>whnf
 refine ZG h (fun h=>?_) (fun h=>?_)
 conv=>whnf
 refine Ze h (fun areTables0 hb1 h=>?_)
 conv=>whnf
 refine Qn h (fun h=>?_) (fun h=>?_)
 conv=>whnf
 refine Ze h (fun clock0 hb2 h=>?_)
 conv=>whnf
 refine ZG h (fun h=>?_) (fun h=>?_)
 conv=>whnf
 refine ZG h (fun h=>?_) (fun h=>?_)
 conv=>whnf
 refine Ze h (fun isInput0 hb3 h=>?_)
 conv=>whnf
 refine Qn h (fun h=>?_) (fun h=>?_)
 conv=>whnf
 refine ⟨trivial,?_⟩
 conv=>whnf
 cases h
 exact hK
 conv=>whnf
 refine ⟨trivial,?_⟩
 conv=>whnf
 cases h
 exact hK
 conv=>whnf
 refine ⟨trivial,?_⟩
 conv=>whnf
 cases h
 exact hK
 conv=>whnf
 refine ⟨trivial,?_⟩
 conv=>whnf
 cases h
 exact hK
 conv=>whnf
 refine ⟨trivial,?_⟩
 conv=>whnf
 cases h
 exact hK
 conv=>whnf
 refine ⟨trivial,?_⟩
 conv=>whnf
 cases h
 exact hK
 conv=>whnf
 refine ⟨trivial,?_⟩
 conv=>whnf
 cases h
 exact hK
 conv=>whnf
 refine ⟨by kernel_rfl,?_⟩
 conv=>whnf
 refine Ze h (fun areTables0 hb4 h=>?_)
 conv=>whnf
 refine Zj4 ?_
 refine Qn h (fun h=>?_) (fun h=>?_)
 conv=>whnf
 refine Ze h (fun areTables1 hb5 h=>?_)
 conv=>whnf
 refine Zj4 ?_
 refine Qn h (fun h=>?_) (fun h=>?_)
 conv=>whnf
 refine Ze h (fun output0 hb6 h=>?_)
 conv=>whnf
 refine Zj4 ?_
 refine ZG h (fun h=>?_) (fun h=>?_)
 conv=>whnf
 refine Ze h (fun isInput0 hb7 h=>?_)
 conv=>whnf
 refine ⟨trivial,?_⟩
 conv=>whnf
 refine Yc ?_
 refine Qn h (fun h=>?_) (fun h=>?_)
 conv=>whnf
 refine ZG h (fun h=>?_) (fun h=>?_)
 conv=>whnf
 refine vAt h (fun x0 he8a he8b he8x h=>?_)
 conv=>whnf
 refine Yc ?_
 refine Qn h (fun h=>?_) (fun h=>?_)
 conv=>whnf
 cases h
 exact hK
 conv=>whnf
 refine Ze h (fun within0 hb9 h=>?_)
 conv=>whnf
 cases h
 exact hK
 conv=>whnf
 refine ZG h (fun h=>?_) (fun h=>?_)
 conv=>whnf
 refine ZG h (fun h=>?_) (fun h=>?_)
 conv=>whnf
 refine vAt h (fun x0 he10a he10b he10x h=>?_)
 conv=>whnf
 refine Qn h (fun h=>?_) (fun h=>?_)
 conv=>whnf
 cases h
 exact hK
 conv=>whnf
 cases h
 exact hK
 conv=>whnf
 cases h
 exact hK
 conv=>whnf
 refine ZG h (fun h=>?_) (fun h=>?_)
 conv=>whnf
 refine vAt h (fun x0 he11a he11b he11x h=>?_)
 conv=>whnf
 refine Qn h (fun h=>?_) (fun h=>?_)
 conv=>whnf
 cases h
 exact hK
 conv=>whnf
 cases h
 exact hK
 conv=>whnf
 cases h
 exact hK
 conv=>whnf
 cases h
 exact hK
 conv=>whnf
 refine ⟨trivial,?_⟩
 conv=>whnf
 cases h
 exact hK
 conv=>whnf
 refine ⟨trivial,?_⟩
 conv=>whnf
 cases h
 exact hK
 conv=>whnf
 refine ⟨trivial,?_⟩
 conv=>whnf
 cases h
 exact hK
theorem ZFE (q1:Sq 209 c94) (q2:Sq 159 c55) (q0:Sq 189 c99):Sq 155 ZAT:=by
 refine Zm ZL (Zg q1 (Zg q2 (Zg q0 Zu))) mixed {draws:=[(1,[0,1,0,4,12,28,63,127,255,511,1023,255,2303,255,8447,30975,63743,129279,260351,524287,1048575,2097151,4194303,8388607,4194303,33554431,67108863,134217727,268435455],.op 0 (.op 1 (.op 2 (.op 3 (.alt 4 (.op 5 (.alt 6 (.op 7 (.op 8 (.op 9 (.op 10 (.op 11 (.op 12 (.op 13 (.op 14 (.op 15 (.op 16 (.op 17 (.op 18 (.op 19 (.op 20 (.op 21 (.op 22 (.op 23 (.op 24 (.alt 25 (.op 26 (.op 27 (.op 28 (.done)))) (.done)))))))))))))))))))) (.done))) (.done))))))]} (fn:=Tryz.f155) Tryz.func155 (by kernel_rfl) (by kernel_rfl) ?_
 rintro ⟨d0,l0,x0,⟨⟩⟩ K ⟨r,h,hK⟩
 change ZqX d0 l0 x0=some r at h
 unfold ZqX at h
 conv=>whnf
 refine ⟨by kernel_rfl,?_⟩
 conv=>whnf
 refine Ze h (fun Cell0 hb0 h=>?_)
 conv=>whnf
 refine Ze h (fun within0 hb1 h=>?_)
 conv=>whnf
 refine Qn h (fun h=>?_) (fun h=>?_)
 conv=>whnf
 refine vAt h (fun x1 he2a he2b he2x h=>?_)
 conv=>whnf
 refine ZG h (fun h=>?_) (fun h=>?_)
 conv=>whnf
 refine Ze h (fun c1_0 hb3 h=>?_)
 conv=>whnf
 refine ⟨trivial,?_⟩
 conv=>whnf
 cases h
 exact hK
 conv=>whnf
 refine ⟨trivial,?_⟩
 conv=>whnf
 cases h
 exact hK
 conv=>whnf
 refine ⟨trivial,?_⟩
 conv=>whnf
 cases h
 exact hK
theorem ZFM (q1:Sq 82 ZAX) (q0:Sq 83 c105) (q2:Sq 84 c107):Sq 31 ZAv:=by
 refine Zm ZL (Zg q1 (Zg q0 (Zg q2 Zu))) mixed {loops:=[(0,[.reg 32 (.dat Iq),.ent 1 (nat_lit 2) (.flat Znz.ety)]),(2,[.reg 50 (.dat Iq)])],draws:=[(13,[0,0,0,6,14,31,63],.op 0 (.op 1 (.op 2 (.op 3 (.op 4 (.alt 5 (.op 6 (.done)) (.done)))))))]} (fn:=Tryz.f31) Tryz.func31 (by kernel_rfl) (by kernel_rfl) ?_
 rintro ⟨b0,⟨⟩⟩ K ⟨r,h,hK⟩
 change ZtD b0=some r at h
 unfold ZtD at h
 conv=>whnf
 refine Ze h (fun IsDesign0 hb0 h=>?_)
 conv=>whnf
 refine Zj4 ?_
 refine Qn h (fun h=>?_) (fun h=>?_)
 conv=>whnf
 refine Yc ?_
 refine ZG h (fun h=>?_) (fun h=>?_)
 conv=>whnf
 refine Yk h (fun hp1 h=>?_)
 conv=>whnf
 refine Yk h (fun hp2 h=>?_)
 conv=>whnf
 refine Yk h (fun hp3 h=>?_)
 conv=>whnf
 refine Yk h (fun hp4 h=>?_)
 conv=>whnf
 refine Ze h (fun places0 hb5 h=>?_)
 conv=>whnf
 refine YH h ?_
 rintro I6 μ6 ⟨v0,l0,⟨⟩⟩ zs6 h hI6 hR6
 change Zr1 b0 places0 v0 l0=some zs6 at h
 unfold Zr1 at h
 conv=>whnf
 refine ZG h (fun h=>?_) (fun h=>?_)
 conv=>whnf
 refine vAt h (fun x0 he7a he7b he7x h=>?_)
 conv=>whnf
 refine ⟨by kernel_rfl,?_⟩
 conv=>whnf
 refine ⟨he7a,he7b,Zh he7x ?_⟩
 conv=>whnf
 refine Yc ?_
 refine Qn h (fun h=>?_) (fun h=>?_)
 conv=>whnf
 cases h
 exact ⟨⟨rfl,rfl⟩,hI6 _ rfl⟩
 conv=>whnf
 refine vAt h (fun x1 he8a he8b he8x h=>?_)
 conv=>whnf
 refine ⟨by kernel_rfl,?_⟩
 conv=>whnf
 refine ⟨he8a,he8b,Zh he8x ?_⟩
 conv=>whnf
 refine ⟨he8a,he8b,Zh he8x ?_⟩
 conv=>whnf
 refine ⟨by kernel_rfl,?_⟩
 conv=>whnf
 refine ⟨by decide,?_⟩
 conv=>whnf
 refine ⟨he8a,he8b,Zh he8x ?_⟩
 conv=>whnf
 cases h
 exact ⟨⟨rfl,rfl⟩,hI6 _ rfl⟩
 conv=>whnf
 refine YH h ?_
 rintro I9 μ9 ⟨v1,⟨⟩⟩ zs9 h hI9 hR9
 change Zta b0 l0 v1=some zs9 at h
 unfold Zta at h
 conv=>whnf
 refine ZG h (fun h=>?_) (fun h=>?_)
 conv=>whnf
 refine vAt h (fun x0 he10a he10b he10x h=>?_)
 conv=>whnf
 refine ⟨by kernel_rfl,?_⟩
 conv=>whnf
 refine vAt h (fun x1 he11a he11b he11x h=>?_)
 conv=>whnf
 refine ⟨by kernel_rfl,?_⟩
 conv=>whnf
 refine ⟨he11a,he11b,Zh he11x ?_⟩
 conv=>whnf
 refine Ze h (fun IsWire0 hb12 h=>?_)
 conv=>whnf
 refine ⟨trivial,?_⟩
 conv=>whnf
 refine Yc ?_
 refine Qn h (fun h=>?_) (fun h=>?_)
 conv=>whnf
 cases h
 exact ⟨⟨rfl,rfl⟩,hI9 _ rfl⟩
 conv=>whnf
 cases h
 obtain rfl:=hR9 _ rfl
 obtain rfl:=hR6 _ rfl
 exact hK
 conv=>whnf
 cases h
 obtain rfl:=hR9 _ rfl
 obtain rfl:=hR6 _ rfl
 exact hK
 conv=>whnf
 cases h
 exact hK
 conv=>whnf
 cases h
 exact hK
theorem ZFL (q0:Sq 158 c63) (q3:Sq 159 c55) (q1:Sq 160 ZAY) (q2:Sq 109 c67):Sq 84 c107:=by
 refine Zm ZL (Zg q0 (Zg q3 (Zg q1 (Zg q2 Zu)))) mixed {} (fn:=Tryz.f84) Tryz.func84 (by kernel_rfl) (by kernel_rfl) ?_
 rintro ⟨w0,sinks0,⟨⟩⟩ K ⟨r,h,hK⟩
 change Zub w0 sinks0=some r at h
 unfold Zub at h
 conv=>whnf
 refine Ze h (fun int64_0 hb0 h=>?_)
 conv=>whnf
 refine Ze h (fun within0 hb1 h=>?_)
 conv=>whnf
 refine Qn h (fun h=>?_) (fun h=>?_)
 conv=>whnf
 refine Ze h (fun int64_1 hb2 h=>?_)
 conv=>whnf
 refine ZG h (fun h=>?_) (fun h=>?_)
 conv=>whnf
 refine Ze h (fun int64_2 hb3 h=>?_)
 conv=>whnf
 refine ZG h (fun h=>?_) (fun h=>?_)
 conv=>whnf
 refine Ze h (fun isTree0 hb4 h=>?_)
 conv=>whnf
 refine Qn h (fun h=>?_) (fun h=>?_)
 conv=>whnf
 refine Ze h (fun areWithin0 hb5 h=>?_)
 conv=>whnf
 refine Qn h (fun h=>?_) (fun h=>?_)
 conv=>whnf
 refine Ze h (fun areWithin1 hb6 h=>?_)
 conv=>whnf
 refine Qn h (fun h=>?_) (fun h=>?_)
 conv=>whnf
 refine Ze h (fun int64_3 hb7 h=>?_)
 conv=>whnf
 refine ZG h (fun h=>?_) (fun h=>?_)
 conv=>whnf
 refine Ze h (fun areWithin2 hb8 h=>?_)
 conv=>whnf
 cases h
 exact hK
 conv=>whnf
 cases h
 exact hK
 conv=>whnf
 cases h
 exact hK
 conv=>whnf
 cases h
 exact hK
 conv=>whnf
 cases h
 exact hK
 conv=>whnf
 cases h
 exact hK
 conv=>whnf
 cases h
 exact hK
 conv=>whnf
 cases h
 exact hK
theorem w67 (q0:Sq 189 c66):Sq 109 c67:=by
 refine Zm ZL (Zg q0 Zu) mixed {} (fn:=Tryz.f109) Tryz.func109 (by kernel_rfl) (by kernel_rfl) ?_
 rintro ⟨list0,low0,high0,⟨⟩⟩ K ⟨r,h,hK⟩
 change Qf list0 low0 high0=some r at h
 unfold Qf at h
 conv=>whnf
 refine Ze h (fun c1_0 hb0 h=>?_)
 conv=>whnf
 cases h
 exact hK
theorem w62:Sq 292 c62:=by
 refine Zm ZL Zu mixed {} (fn:=Tryz.f292) Tryz.func292 (by kernel_rfl) (by kernel_rfl) ?_
 rintro ⟨kind0,⟨⟩⟩ K ⟨r,h,hK⟩
 change Zuq kind0=some r at h
 unfold Zuq at h
 conv=>whnf
 refine ZcV h (fun h=>?_) (fun h=>?_)
 conv=>whnf
 cases h
 exact hK
 conv=>whnf
 cases h
 exact hK
theorem ZFZ (q2:Sq 31 ZAv) (q3:Sq 129 c117) (q0:Sq 130 c119) (q1:Sq 131 ZAK):Sq 62 ZAL:=by
 refine Zm ZL (Zg q2 (Zg q3 (Zg q0 (Zg q1 Zu)))) mixed {} (fn:=Tryz.f62) Tryz.func62 (by kernel_rfl) (by kernel_rfl) ?_
 rintro ⟨b0,broken0,⟨⟩⟩ K ⟨r,h,hK⟩
 change ZHh b0 broken0=some r at h
 unfold ZHh at h
 conv=>whnf
 refine Ze h (fun IsBlock0 hb0 h=>?_)
 conv=>whnf
 refine Yc ?_
 refine Qn h (fun h=>?_) (fun h=>?_)
 conv=>whnf
 refine Ze h (fun newView0 hb1 h=>?_)
 conv=>whnf
 refine Ze h (fun isBroken0 hb2 h=>?_)
 conv=>whnf
 refine Yc ?_
 refine Qn h (fun h=>?_) (fun h=>?_)
 conv=>whnf
 refine Ze h (fun graphOf0 hb3 h=>?_)
 conv=>whnf
 cases h
 exact hK
 conv=>whnf
 cases h
 exact hK
 conv=>whnf
 cases h
 exact hK
theorem ZDU (q1:Sq 132 ZA6) (q2:Sq 109 c67) (q0:Sq 133 c68):Sq 63 c124:=by
 refine Zm ZL (Zg q1 (Zg q2 (Zg q0 Zu))) mixed {} (fn:=Tryz.f63) Tryz.func63 (by kernel_rfl) (by kernel_rfl) ?_
 rintro ⟨v0,list0,⟨⟩⟩ K ⟨r,h,hK⟩
 change ZGG v0 list0=some r at h
 unfold ZGG at h
 conv=>whnf
 refine Ze h (fun nodes0 hb0 h=>?_)
 conv=>whnf
 refine Ze h (fun areWithin0 hb1 h=>?_)
 conv=>whnf
 refine Qn h (fun h=>?_) (fun h=>?_)
 conv=>whnf
 refine Ze h (fun isIncreasing0 hb2 h=>?_)
 conv=>whnf
 cases h
 exact hK
 conv=>whnf
 cases h
 exact hK
theorem w55:Sq 159 c55:=by
 refine Zm ZL Zu mixed {} (fn:=Tryz.f159) Tryz.func159 (by kernel_rfl) (by kernel_rfl) ?_
 rintro ⟨x0,low0,high0,⟨⟩⟩ K ⟨r,h,hK⟩
 change YA x0 low0 high0=some r at h
 unfold YA at h
 conv=>whnf
 refine ZG h (fun h=>?_) (fun h=>?_)
 conv=>whnf
 cases h
 exact hK
 conv=>whnf
 cases h
 exact hK
theorem w0:Sq 9 c0:=by
 refine Zm ZL Zu mixed {} (fn:=Tryz.f9) Tryz.func9 (by kernel_rfl) (by kernel_rfl) ?_
 rintro ⟨code0,⟨⟩⟩ K ⟨r,h,hK⟩
 change ZbE code0=some r at h
 unfold ZbE at h
 conv=>whnf
 cases h
 exact hK
theorem ZGc:Sq 25 ZBg:=by
 refine Zm ZL Zu mixed {loops:=[(0,[.reg 5 (.dat Iq)])]} (fn:=Tryz.f25) Tryz.func25 (by kernel_rfl) (by kernel_rfl) ?_
 rintro ⟨list0,x0,⟨⟩⟩ K ⟨r,h,hK⟩
 change ZHC list0 x0=some r at h
 unfold ZHC at h
 conv=>whnf
 refine YH h ?_
 rintro I0 μ0 ⟨i0,⟨⟩⟩ zs0 h hI0 hR0
 change ZHr list0 x0 i0=some zs0 at h
 unfold ZHr at h
 conv=>whnf
 refine ZG h (fun h=>?_) (fun h=>?_)
 conv=>whnf
 refine vAt h (fun x1 he1a he1b he1x h=>?_)
 conv=>whnf
 refine ZG h (fun h=>?_) (fun h=>?_)
 conv=>whnf
 cases h
 obtain rfl:=hR0 _ rfl
 exact hK
 conv=>whnf
 cases h
 exact ⟨⟨rfl,rfl⟩,hI0 _ rfl⟩
 conv=>whnf
 cases h
 obtain rfl:=hR0 _ rfl
 exact hK
theorem w10 (q1:Sq 238 c8) (q0:Sq 239 c9):Sq 197 c10:=by
 refine Zm VX (Zg q1 (Zg q0 Zu)) mixed {} (fn:=Tryz.f197) Tryz.func197 (by kernel_rfl) (by kernel_rfl) ?_
 rintro ⟨s0,⟨⟩⟩ K ⟨r,h,hK⟩
 change Vf s0=some r at h
 unfold Vf at h
 conv=>whnf
 refine Ze h (fun l03Gate0 hb0 h=>?_)
 conv=>whnf
 intro fp1
 conv=>whnf
 refine Ze h (fun l03Gate1 hb2 h=>?_)
 conv=>whnf
 intro fp3
 conv=>whnf
 refine Ze h (fun l03Gate2 hb4 h=>?_)
 conv=>whnf
 intro fp5
 conv=>whnf
 refine Ze h (fun l03Gate3 hb6 h=>?_)
 conv=>whnf
 intro fp7
 conv=>whnf
 refine Ze h (fun l03Gate4 hb8 h=>?_)
 conv=>whnf
 intro fp9
 conv=>whnf
 refine Ze h (fun l03DrawFlop0 hb10 h=>?_)
 conv=>whnf
 intro fp11
 conv=>whnf
 refine Ze h (fun l03DrawFlop1 hb12 h=>?_)
 conv=>whnf
 intro fp13
 conv=>whnf
 refine Ze h (fun l03DrawFlop2 hb14 h=>?_)
 conv=>whnf
 intro fp15
 conv=>whnf
 intro fp16
 conv=>whnf
 cases h
 exact hK
theorem w9 (q1:Sq 44 c2) (q0:Sq 264 c7):Sq 239 c9:=by
 refine Zm VX (Zg q1 (Zg q0 Zu)) mixed {} (fn:=Tryz.f239) Tryz.func239 (by kernel_rfl) (by kernel_rfl) ?_
 rintro ⟨s0,name0,kind0,edge0,⟨⟩⟩ K ⟨r,h,hK⟩
 change Yq s0 name0 kind0 edge0=some r at h
 unfold Yq at h
 conv=>whnf
 refine Ze h (fun l01Next0 hb0 h=>?_)
 conv=>whnf
 refine Ze h (fun l01Next1 hb1 h=>?_)
 conv=>whnf
 refine Ze h (fun l01Next2 hb2 h=>?_)
 conv=>whnf
 refine Ze h (fun l01Next3 hb3 h=>?_)
 conv=>whnf
 refine Ze h (fun l03DrawArc0 hb4 h=>?_)
 conv=>whnf
 intro fp5
 conv=>whnf
 intro fp6
 conv=>whnf
 refine Ze h (fun l03DrawArc1 hb7 h=>?_)
 conv=>whnf
 intro fp8
 conv=>whnf
 intro fp9
 conv=>whnf
 refine Ze h (fun l03DrawArc2 hb10 h=>?_)
 conv=>whnf
 intro fp11
 conv=>whnf
 intro fp12
 conv=>whnf
 intro fp13
 conv=>whnf
 refine ZG h (fun h=>?_) (fun h=>?_)
 conv=>whnf
 refine Ze h (fun l03DrawArc3 hb14 h=>?_)
 conv=>whnf
 intro fp15
 conv=>whnf
 intro fp16
 conv=>whnf
 intro fp17
 conv=>whnf
 refine Yk h (fun hp18 h=>?_)
 conv=>whnf
 intro fp19
 conv=>whnf
 cases h
 exact hK
 conv=>whnf
 cases h
 exact hK
theorem w28 (q0:Sq 300 c27):Sq 285 c28:=by
 refine Zm ZL (Zg q0 Zu) mixed {loops:=[(0,[.reg 5 (.dat Iq)])]} (fn:=Tryz.f285) Tryz.func285 (by kernel_rfl) (by kernel_rfl) ?_
 rintro ⟨list0,positive0,⟨⟩⟩ K ⟨r,h,hK⟩
 change ZpG list0 positive0=some r at h
 unfold ZpG at h
 conv=>whnf
 refine Yc ?_
 refine ZG h (fun h=>?_) (fun h=>?_)
 conv=>whnf
 refine YH h ?_
 rintro I0 μ0 ⟨i0,⟨⟩⟩ zs0 h hI0 hR0
 change Zsy list0 positive0 i0=some zs0 at h
 unfold Zsy at h
 conv=>whnf
 refine ZG h (fun h=>?_) (fun h=>?_)
 conv=>whnf
 refine vAt h (fun x0 he1a he1b he1x h=>?_)
 conv=>whnf
 refine Ze h (fun TableBounds0 hb2 h=>?_)
 conv=>whnf
 refine Zj4 ?_
 refine ZG h (fun h=>?_) (fun h=>?_)
 conv=>whnf
 refine Qn h (fun h=>?_) (fun h=>?_)
 conv=>whnf
 refine ZG h (fun h=>?_) (fun h=>?_)
 conv=>whnf
 cases h
 obtain rfl:=hR0 _ rfl
 exact hK
 conv=>whnf
 cases h
 exact ⟨⟨rfl,rfl⟩,hI0 _ rfl⟩
 conv=>whnf
 cases h
 exact ⟨⟨rfl,rfl⟩,hI0 _ rfl⟩
 conv=>whnf
 cases h
 obtain rfl:=hR0 _ rfl
 exact hK
 conv=>whnf
 cases h
 obtain rfl:=hR0 _ rfl
 exact hK
 conv=>whnf
 cases h
 exact hK
theorem w13:Sq 96 c13:=by
 refine Zm ZL Zu mixed {loops:=[(0,[.reg 3 (.own (.ol 227 (.flat (JJ)))),.reg 4 (.dat Iq)]),(2,[.reg 3 (.own (.ol 227 (.flat (JJ)))),.reg 6 (.dat Iq)]),(4,[.reg 3 (.own (.ol 227 (.flat (JJ)))),.reg 7 (.dat Iq)])],draws:=[(13,[0,0,0,4,0,28,60,124,0,256,0,1792,3840,7936,16128,32766,65534,131071,262143],.op 0 (.op 1 (.op 2 (.op 3 (.op 4 (.op 5 (.op 6 (.op 7 (.op 8 (.op 9 (.op 10 (.op 11 (.op 12 (.op 13 (.op 14 (.op 15 (.alt 16 (.alt 17 (.op 18 (.done)) (.done)) (.done))))))))))))))))))]} (fn:=Tryz.f96) Tryz.func96 (by kernel_rfl) (by kernel_rfl) ?_
 rintro ⟨a0,⟨⟩⟩ K ⟨r,h,hK⟩
 change YJ a0=some r at h
 unfold YJ at h
 conv=>whnf
 refine YH h ?_
 rintro I0 μ0 ⟨v0,v1,⟨⟩⟩ zs0 h hI0 hR0
 change YZ a0 v0 v1=some zs0 at h
 unfold YZ at h
 conv=>whnf
 refine ZG h (fun h=>?_) (fun h=>?_)
 conv=>whnf
 refine vAt h (fun x0 he1a he1b he1x h=>?_)
 conv=>whnf
 refine YH h ?_
 rintro I2 μ2 ⟨v2,v3,⟨⟩⟩ zs2 h hI2 hR2
 change YW v1 x0 v2 v3=some zs2 at h
 unfold YW at h
 conv=>whnf
 refine ZG h (fun h=>?_) (fun h=>?_)
 conv=>whnf
 refine vAt h (fun x1 he3a he3b he3x h=>?_)
 conv=>whnf
 refine Yk h (fun hp4 h=>?_)
 conv=>whnf
 cases h
 exact ⟨⟨rfl,rfl⟩,hI2 _ rfl⟩
 conv=>whnf
 cases h
 obtain rfl:=hR2 _ rfl
 exact ⟨⟨rfl,rfl⟩,hI0 _ rfl⟩
 conv=>whnf
 refine YH h ?_
 rintro I5 μ5 ⟨v2,v3,⟨⟩⟩ zs5 h hI5 hR5
 change YX a0 v2 v3=some zs5 at h
 unfold YX at h
 conv=>whnf
 refine ZG h (fun h=>?_) (fun h=>?_)
 conv=>whnf
 refine ⟨by kernel_rfl,?_⟩
 conv=>whnf
 refine vAt h (fun x0 he6a he6b he6x h=>?_)
 conv=>whnf
 refine ⟨he6a,he6b,Zh he6x ?_⟩
 conv=>whnf
 refine Yk h (fun hp7 h=>?_)
 conv=>whnf
 refine ⟨trivial,?_⟩
 conv=>whnf
 cases h
 exact ⟨⟨rfl,rfl⟩,hI5 _ rfl⟩
 conv=>whnf
 cases h
 obtain rfl:=hR5 _ rfl
 obtain rfl:=hR0 _ rfl
 exact hK
theorem w17 (q1:Sq 44 c2) (q0:Sq 219 c15) (q2:Sq 161 c16):Sq 164 c17:=by
 refine Zm ZL (Zg q1 (Zg q0 (Zg q2 Zu))) mixed {loops:=[(0,[.reg 6 (.dat Iq),.cell 1000 0 (.sl (.int .u8)),.cell 1000 1 Iq,.cell 1000 2 Iq,.cello 1005 0 (.ol (nat_lit 2) (.flat (Ty.int IntKind.i64))),.cello 1005 1 (.ol (nat_lit 2) (.flat (Ty.int IntKind.i64))),.cello 1005 2 (.ol (nat_lit 2) (.flat (Ty.int IntKind.i64))),.cello 1005 3 (.ol (nat_lit 2) (.flat (Ty.int IntKind.i64)))]),(2,[.reg 8 (.dat Iq),.cell 1000 0 (.sl (.int .u8)),.cell 1000 1 Iq,.cell 1000 2 Iq,.ent 10 (nat_lit 2) (.flat (Ty.int IntKind.i64))])],draws:=[(6,[0,1,3,0,0,31,63,127,0,256,1023,0,4095,8191,16383,0,32768,131071,0,524287,1048575,2097151,0,4194304,16777215,33554431],.op 0 (.op 1 (.op 3 (.op 4 (.op 8 (.op 11 (.op 15 (.op 18 (.op 22 (.ld 9 (.ld 16 (.ld 23 (.alt 2 (.alt 5 (.alt 6 (.alt 7 (.alt 10 (.alt 12 (.alt 13 (.alt 14 (.alt 17 (.alt 19 (.alt 20 (.alt 21 (.op 24 (.alt 25 (.done) (.done))) (.done)) (.done)) (.done)) (.done)) (.done)) (.done)) (.done)) (.done)) (.done)) (.done)) (.done)) (.done)))))))))))))),(10,[0,1,0,0,0,16,48,120,255,511],.op 0 (.op 2 (.op 3 (.op 4 (.op 5 (.op 6 (.ld 1 (.alt 7 (.op 8 (.alt 9 (.done) (.done))) (.done)))))))))]} (fn:=Tryz.f164) Tryz.func164 (by kernel_rfl) (by kernel_rfl) ?_
 rintro ⟨s0,sinks0,⟨⟩⟩ K ⟨r,h,hK⟩
 change Xi s0 sinks0=some r at h
 unfold Xi at h
 conv=>whnf
 refine Ze h (fun l01Next0 hb0 h=>?_)
 conv=>whnf
 refine Ze h (fun l07Lumped0 hb1 h=>?_)
 conv=>whnf
 refine Ze h (fun l01Next1 hb2 h=>?_)
 conv=>whnf
 refine YH h ?_
 rintro I3 μ3 ⟨n0,c0,c1,c2,c3,c4,c5,c6,⟨⟩⟩ zs3 h hI3 hR3
 change Yx n0 c0 c1 c2 c3 c4 c5 c6=some zs3 at h
 unfold Yx at h
 conv=>whnf
 refine ZG h (fun h=>?_) (fun h=>?_)
 conv=>whnf
 refine ⟨by kernel_rfl,?_⟩
 conv=>whnf
 refine ⟨by kernel_rfl,?_⟩
 conv=>whnf
 refine ⟨by kernel_rfl,?_⟩
 conv=>whnf
 refine ⟨by kernel_rfl,?_⟩
 conv=>whnf
 refine Ze h (fun l02Ints0 hb4 h=>?_)
 conv=>whnf
 refine ⟨by kernel_rfl,?_⟩
 conv=>whnf
 refine Ze h (fun l01Next2 hb5 h=>?_)
 conv=>whnf
 refine ⟨by kernel_rfl,?_⟩
 conv=>whnf
 refine Yk h (fun hp6 h=>?_)
 conv=>whnf
 refine Ze h (fun l02Ints1 hb7 h=>?_)
 conv=>whnf
 refine ⟨by kernel_rfl,?_⟩
 conv=>whnf
 refine Ze h (fun l01Next3 hb8 h=>?_)
 conv=>whnf
 refine ⟨by kernel_rfl,?_⟩
 conv=>whnf
 refine Yk h (fun hp9 h=>?_)
 conv=>whnf
 refine Ze h (fun l02Ints2 hb10 h=>?_)
 conv=>whnf
 refine ⟨by kernel_rfl,?_⟩
 conv=>whnf
 refine Ze h (fun l01Next4 hb11 h=>?_)
 conv=>whnf
 refine ⟨by kernel_rfl,?_⟩
 conv=>whnf
 refine Yk h (fun hp12 h=>?_)
 conv=>whnf
 refine ⟨trivial,?_⟩
 conv=>whnf
 cases h
 exact ⟨⟨rfl,rfl⟩,hI3 _ rfl⟩
 conv=>whnf
 refine YH h ?_
 rintro I13 μ13 ⟨i0,c7,c8,c9,l0,⟨⟩⟩ zs13 h hI13 hR13
 change Yw c3 c4 c5 i0 c7 c8 c9 l0=some zs13 at h
 unfold Yw at h
 conv=>whnf
 refine ZG h (fun h=>?_) (fun h=>?_)
 conv=>whnf
 refine ⟨by kernel_rfl,?_⟩
 conv=>whnf
 refine ⟨by kernel_rfl,?_⟩
 conv=>whnf
 refine ⟨by kernel_rfl,?_⟩
 conv=>whnf
 refine Ze h (fun l01Next2 hb14 h=>?_)
 conv=>whnf
 refine vAt h (fun x0 he15a he15b he15x h=>?_)
 conv=>whnf
 refine ⟨by kernel_rfl,?_⟩
 conv=>whnf
 refine ⟨by kernel_rfl,?_⟩
 conv=>whnf
 refine ⟨by decide,?_⟩
 conv=>whnf
 refine ⟨he15a,he15b,Zh he15x ?_⟩
 conv=>whnf
 refine ⟨trivial,?_⟩
 conv=>whnf
 cases h
 exact ⟨⟨rfl,rfl⟩,hI13 _ rfl⟩
 conv=>whnf
 cases h
 obtain rfl:=hR13 _ rfl
 obtain rfl:=hR3 _ rfl
 exact hK
theorem w50 (q0:Sq 69 c42) (q3:Sq 70 c45) (q1:Sq 71 c46) (q2:Sq 199 c49) (q4:Sq 141 c44):Sq 127 c50:=by
 refine Zm ZL (Zg q0 (Zg q3 (Zg q1 (Zg q2 (Zg q4 Zu))))) mixed {loops:=[(0,[.ent 3 (nat_lit 4) (.flat Ty.bool)]),(4,[.reg 9 (.own (.ol 2 (.flat Iq))),.reg 10 (.dat Iq)]),(2,[.reg 7 (.dat Iq),.reg 8 (.dat Iq),.ent 4 (nat_lit 51) (Dp.ol (2:Go.TypeId) (Dp.flat (Ty.int IntKind.i64)))])],draws:=[(10,[0,0,3,7,15,31,31,127,255,511,1023,2047,4095,8191,16383,32767,8191,8191,204799,466943,991231,2097151,4194303,8388607,16777215,33554431,67108863,16777215,16777215,419430399,956301311,2030043135,4294967295,8589934591],.op 0 (.op 1 (.op 2 (.op 3 (.op 4 (.op 5 (.op 6 (.op 7 (.op 8 (.op 9 (.op 10 (.op 11 (.op 12 (.op 13 (.op 14 (.op 15 (.op 16 (.op 17 (.op 18 (.op 19 (.op 20 (.alt 21 (.op 22 (.op 23 (.op 24 (.op 25 (.op 26 (.op 27 (.op 28 (.op 29 (.op 30 (.op 31 (.alt 32 (.op 33 (.done)) (.done)))))))))))) (.done)))))))))))))))))))))))]} (fn:=Tryz.f127) Tryz.func127 (by kernel_rfl) (by kernel_rfl) ?_
 rintro ⟨a0,⟨⟩⟩ K ⟨r,h,hK⟩
 change ZHk a0=some r at h
 unfold ZHk at h
 conv=>whnf
 refine Ze h (fun l09Links0 hb0 h=>?_)
 conv=>whnf
 refine Ze h (fun l09Live0 hb1 h=>?_)
 conv=>whnf
 refine Ze h (fun l09Count0 hb2 h=>?_)
 conv=>whnf
 refine YH h ?_
 rintro I3 μ3 ⟨l0,⟨⟩⟩ zs3 h hI3 hR3
 change ZHd l09Links0 l09Count0 l0=some zs3 at h
 unfold ZHd at h
 conv=>whnf
 refine Ze h (fun l10Loops0 hb4 h=>?_)
 conv=>whnf
 intro fp5
 conv=>whnf
 refine ZG h (fun h=>?_) (fun h=>?_)
 conv=>whnf
 refine YH h ?_
 rintro I6 μ6 ⟨v0,v1,⟨⟩⟩ zs6 h hI6 hR6
 change ZHb l0 v0 v1=some zs6 at h
 unfold ZHb at h
 conv=>whnf
 refine ZG h (fun h=>?_) (fun h=>?_)
 conv=>whnf
 refine vAt h (fun x0 he7a he7b he7x h=>?_)
 conv=>whnf
 refine ⟨by kernel_rfl,?_⟩
 conv=>whnf
 refine ⟨he7a,he7b,Zh he7x ?_⟩
 conv=>whnf
 refine Yc ?_
 refine Qn h (fun h=>?_) (fun h=>?_)
 conv=>whnf
 cases h
 exact ⟨⟨rfl,rfl⟩,hI6 _ rfl⟩
 conv=>whnf
 refine Yk h (fun hp8 h=>?_)
 conv=>whnf
 cases h
 exact ⟨⟨rfl,rfl⟩,hI6 _ rfl⟩
 conv=>whnf
 cases h
 obtain rfl:=hR6 _ rfl
 obtain rfl:=hR3 _ rfl
 exact hK
 conv=>whnf
 refine YH h ?_
 rintro I9 μ9 ⟨v0,v1,l1,⟨⟩⟩ zs9 h hI9 hR9
 change ZHc l09Links0 l0 v0 v1 l1=some zs9 at h
 unfold ZHc at h
 conv=>whnf
 intro fp10
 conv=>whnf
 refine ZG h (fun h=>?_) (fun h=>?_)
 conv=>whnf
 refine ⟨by kernel_rfl,?_⟩
 conv=>whnf
 refine vAt h (fun x0 he11a he11b he11x h=>?_)
 conv=>whnf
 refine ⟨by kernel_rfl,?_⟩
 conv=>whnf
 refine ⟨he11a,he11b,Zh he11x ?_⟩
 conv=>whnf
 refine Qn h (fun h=>?_) (fun h=>?_)
 conv=>whnf
 refine vAt h (fun x1 he12a he12b he12x h=>?_)
 conv=>whnf
 refine ⟨by kernel_rfl,?_⟩
 conv=>whnf
 refine ⟨he12a,he12b,Zh he12x ?_⟩
 conv=>whnf
 refine ZG h (fun h=>?_) (fun h=>?_)
 conv=>whnf
 refine vAt h (fun x2 he13a he13b he13x h=>?_)
 conv=>whnf
 refine ⟨he13a,he13b,Zh he13x ?_⟩
 conv=>whnf
 intro fp14
 conv=>whnf
 refine ⟨he12a,he12b,Zh he12x ?_⟩
 conv=>whnf
 refine ⟨by kernel_rfl,?_⟩
 conv=>whnf
 refine ⟨he12a,he12b,Zh he12x ?_⟩
 conv=>whnf
 refine Ze h (fun l09Has0 hb15 h=>?_)
 conv=>whnf
 refine Qn h (fun h=>?_) (fun h=>?_)
 conv=>whnf
 refine ⟨he13a,he13b,Zh he13x ?_⟩
 conv=>whnf
 refine .inl ⟨rfl,?_⟩
 conv=>whnf
 refine ⟨he12a,he12b,Zh he12x ?_⟩
 conv=>whnf
 refine ⟨by kernel_rfl,?_⟩
 conv=>whnf
 refine ⟨he12a,he12b,Zh he12x ?_⟩
 conv=>whnf
 refine Ze h (fun l09Has1 hb16 h=>?_)
 conv=>whnf
 refine ⟨trivial,?_⟩
 conv=>whnf
 refine Qn h (fun h=>?_) (fun h=>?_)
 conv=>whnf
 cases h
 exact ⟨⟨rfl,rfl⟩,hI9 _ rfl⟩
 conv=>whnf
 cases h
 exact ⟨⟨rfl,rfl⟩,hI9 _ rfl⟩
 conv=>whnf
 refine ⟨trivial,?_⟩
 conv=>whnf
 cases h
 exact ⟨⟨rfl,rfl⟩,hI9 _ rfl⟩
 conv=>whnf
 refine ⟨trivial,?_⟩
 conv=>whnf
 cases h
 exact ⟨⟨rfl,rfl⟩,hI9 _ rfl⟩
 conv=>whnf
 refine ⟨trivial,?_⟩
 conv=>whnf
 cases h
 exact ⟨⟨rfl,rfl⟩,hI9 _ rfl⟩
 conv=>whnf
 refine vAt h (fun x0 he17a he17b he17x h=>?_)
 conv=>whnf
 refine ⟨by kernel_rfl,?_⟩
 conv=>whnf
 refine ⟨by decide,?_⟩
 conv=>whnf
 refine ⟨he17a,he17b,Zh he17x ?_⟩
 conv=>whnf
 cases h
 obtain rfl:=hR9 _ rfl
 exact ⟨⟨rfl,rfl⟩,hI3 _ rfl⟩
theorem w48:Sq 240 c48:=by
 refine Zm ZL Zu mixed {loops:=[(0,[.reg 7 (.dat Iq)])]} (fn:=Tryz.f240) Tryz.func240 (by kernel_rfl) (by kernel_rfl) ?_
 rintro ⟨links0,live0,v0,⟨⟩⟩ K ⟨r,h,hK⟩
 change ZHE links0 live0 v0=some r at h
 unfold ZHE at h
 conv=>whnf
 refine YH h ?_
 rintro I0 μ0 ⟨k0,⟨⟩⟩ zs0 h hI0 hR0
 change ZHl links0 live0 v0 k0=some zs0 at h
 unfold ZHl at h
 conv=>whnf
 refine ZG h (fun h=>?_) (fun h=>?_)
 conv=>whnf
 refine vAt h (fun x0 he1a he1b he1x h=>?_)
 conv=>whnf
 refine Qn h (fun h=>?_) (fun h=>?_)
 conv=>whnf
 refine vAt h (fun x1 he2a he2b he2x h=>?_)
 conv=>whnf
 refine ZG h (fun h=>?_) (fun h=>?_)
 conv=>whnf
 refine ⟨he2a,he2b,Zh he2x ?_⟩
 conv=>whnf
 refine ZG h (fun h=>?_) (fun h=>?_)
 conv=>whnf
 cases h
 obtain rfl:=hR0 _ rfl
 exact hK
 conv=>whnf
 cases h
 exact ⟨⟨rfl,rfl⟩,hI0 _ rfl⟩
 conv=>whnf
 cases h
 exact ⟨⟨rfl,rfl⟩,hI0 _ rfl⟩
 conv=>whnf
 cases h
 exact ⟨⟨rfl,rfl⟩,hI0 _ rfl⟩
 conv=>whnf
 cases h
 obtain rfl:=hR0 _ rfl
 exact hK
theorem w52 (q3:Sq 123 c20) (q1:Sq 124 c21) (q5:Sq 44 c2) (q6:Sq 125 c18) (q2:Sq 126 c43) (q7:Sq 77 c37) (q4:Sq 127 c50) (q0:Sq 128 c51):Sq 60 c52:=by
 refine Zm ZL (Zg q3 (Zg q1 (Zg q5 (Zg q6 (Zg q2 (Zg q7 (Zg q4 (Zg q0 Zu)))))))) mixed {draws:=[(8,[0,0,0,0,0,24,57,123,255,511],.op 2 (.op 3 (.op 4 (.ld 0 (.alt 1 (.alt 5 (.alt 6 (.alt 7 (.op 8 (.op 9 (.done))) (.done)) (.done)) (.done)) (.alt 5 (.alt 1 (.alt 6 (.alt 7 (.op 8 (.op 9 (.done))) (.done)) (.done)) (.alt 6 (.alt 1 (.alt 7 (.op 8 (.op 9 (.done))) (.done)) (.done)) (.done))) (.done)))))))]} (fn:=Tryz.f60) Tryz.func60 (by kernel_rfl) (by kernel_rfl) ?_
 rintro ⟨s0,⟨⟩⟩ K ⟨r,h,hK⟩
 change ZHg s0=some r at h
 unfold ZHg at h
 conv=>whnf
 refine Ze h (fun l09DrawBlock0 hb0 h=>?_)
 conv=>whnf
 intro fp1
 conv=>whnf
 intro fp2
 conv=>whnf
 intro fp3
 conv=>whnf
 refine Ze h (fun l11DrawCorner0 hb4 h=>?_)
 conv=>whnf
 refine Ze h (fun l01Next0 hb5 h=>?_)
 conv=>whnf
 refine ZG h (fun h=>?_) (fun h=>?_)
 conv=>whnf
 refine Ze h (fun l07Draw0 hb6 h=>?_)
 conv=>whnf
 intro fp7
 conv=>whnf
 intro fp8
 conv=>whnf
 intro fp9
 conv=>whnf
 refine Ze h (fun l09DrawBroken0 hb10 h=>?_)
 conv=>whnf
 refine Ze h (fun IsBlock0 hb11 h=>?_)
 conv=>whnf
 refine Qn h (fun h=>?_) (fun h=>?_)
 conv=>whnf
 refine ZG h (fun h=>?_) (fun h=>?_)
 conv=>whnf
 refine Ze h (fun l01Next1 hb12 h=>?_)
 conv=>whnf
 refine ZG h (fun h=>?_) (fun h=>?_)
 focus
  conv=>whnf
  refine Ze h (fun l10Break0 hb13 h=>?_)
  conv=>whnf
  refine ⟨by kernel_rfl,?_⟩
  conv=>whnf
  refine ⟨by kernel_rfl,?_⟩
  conv=>whnf
  obtain ⟨l12DrawSources0,hb14,h⟩:=Option.bind_eq_some_iff.1 h
  refine ⟨?_,?_⟩
  rotate_left
  focus
   conv=>whnf
   refine ⟨by kernel_rfl,?_⟩
   conv=>whnf
   refine ⟨_,hb14,?_⟩
   conv=>whnf
   refine ⟨?_,?_⟩
   rotate_left
   focus
    conv=>whnf
    refine ⟨trivial,?_⟩
   rotate_right
   focus
    conv=>whnf
    refine ⟨trivial,?_⟩
  rotate_right
  focus
   conv=>whnf
   refine ⟨by kernel_rfl,?_⟩
   conv=>whnf
   refine ⟨_,hb14,?_⟩
   conv=>whnf
   refine ⟨trivial,?_⟩
  all_goals
   conv=>whnf
   cases h
   exact hK
 focus
  conv=>whnf
  refine ⟨by kernel_rfl,?_⟩
  conv=>whnf
  refine ⟨by kernel_rfl,?_⟩
  conv=>whnf
  obtain ⟨l12DrawSources0,hb15,h⟩:=Option.bind_eq_some_iff.1 h
  refine ⟨?_,?_⟩
  rotate_left
  focus
   conv=>whnf
   refine ⟨by kernel_rfl,?_⟩
   conv=>whnf
   refine ⟨_,hb15,?_⟩
   conv=>whnf
   refine ⟨?_,?_⟩
   rotate_left
   focus
    conv=>whnf
    refine ⟨trivial,?_⟩
   rotate_right
   focus
    conv=>whnf
    refine ⟨trivial,?_⟩
  rotate_right
  focus
   conv=>whnf
   refine ⟨by kernel_rfl,?_⟩
   conv=>whnf
   refine ⟨_,hb15,?_⟩
   conv=>whnf
   refine ⟨trivial,?_⟩
  all_goals
   conv=>whnf
   cases h
   exact hK
 focus
  conv=>whnf
  refine ⟨by kernel_rfl,?_⟩
  conv=>whnf
  refine ⟨by kernel_rfl,?_⟩
  conv=>whnf
  obtain ⟨l12DrawSources0,hb16,h⟩:=Option.bind_eq_some_iff.1 h
  refine ⟨?_,?_⟩
  rotate_left
  focus
   conv=>whnf
   refine ⟨by kernel_rfl,?_⟩
   conv=>whnf
   refine ⟨_,hb16,?_⟩
   conv=>whnf
   refine ⟨?_,?_⟩
   rotate_left
   focus
    conv=>whnf
    refine ⟨trivial,?_⟩
   rotate_right
   focus
    conv=>whnf
    refine ⟨trivial,?_⟩
  rotate_right
  focus
   conv=>whnf
   refine ⟨by kernel_rfl,?_⟩
   conv=>whnf
   refine ⟨_,hb16,?_⟩
   conv=>whnf
   refine ⟨trivial,?_⟩
  all_goals
   conv=>whnf
   cases h
   exact hK
 focus
  conv=>whnf
  refine ⟨by kernel_rfl,?_⟩
  conv=>whnf
  refine ⟨by kernel_rfl,?_⟩
  conv=>whnf
  obtain ⟨l12DrawSources0,hb17,h⟩:=Option.bind_eq_some_iff.1 h
  refine ⟨?_,?_⟩
  rotate_left
  focus
   conv=>whnf
   refine ⟨by kernel_rfl,?_⟩
   conv=>whnf
   refine ⟨_,hb17,?_⟩
   conv=>whnf
   refine ⟨?_,?_⟩
   rotate_left
   focus
    conv=>whnf
    refine ⟨trivial,?_⟩
   rotate_right
   focus
    conv=>whnf
    refine ⟨trivial,?_⟩
  rotate_right
  focus
   conv=>whnf
   refine ⟨by kernel_rfl,?_⟩
   conv=>whnf
   refine ⟨_,hb17,?_⟩
   conv=>whnf
   refine ⟨trivial,?_⟩
  all_goals
   conv=>whnf
   cases h
   exact hK
 conv=>whnf
 refine Ze h (fun l09DrawBroken0 hb18 h=>?_)
 conv=>whnf
 refine Ze h (fun IsBlock0 hb19 h=>?_)
 conv=>whnf
 refine Qn h (fun h=>?_) (fun h=>?_)
 conv=>whnf
 refine ZG h (fun h=>?_) (fun h=>?_)
 conv=>whnf
 refine Ze h (fun l01Next1 hb20 h=>?_)
 conv=>whnf
 refine ZG h (fun h=>?_) (fun h=>?_)
 focus
  conv=>whnf
  refine Ze h (fun l10Break0 hb21 h=>?_)
  conv=>whnf
  refine ⟨by kernel_rfl,?_⟩
  conv=>whnf
  refine ⟨by kernel_rfl,?_⟩
  conv=>whnf
  obtain ⟨l12DrawSources0,hb22,h⟩:=Option.bind_eq_some_iff.1 h
  refine ⟨?_,?_⟩
  rotate_left
  focus
   conv=>whnf
   refine ⟨by kernel_rfl,?_⟩
   conv=>whnf
   refine ⟨_,hb22,?_⟩
   conv=>whnf
   refine ⟨?_,?_⟩
   rotate_left
   focus
    conv=>whnf
    refine ⟨trivial,?_⟩
   rotate_right
   focus
    conv=>whnf
    refine ⟨trivial,?_⟩
  rotate_right
  focus
   conv=>whnf
   refine ⟨by kernel_rfl,?_⟩
   conv=>whnf
   refine ⟨_,hb22,?_⟩
   conv=>whnf
   refine ⟨trivial,?_⟩
  all_goals
   conv=>whnf
   cases h
   exact hK
 focus
  conv=>whnf
  refine ⟨by kernel_rfl,?_⟩
  conv=>whnf
  refine ⟨by kernel_rfl,?_⟩
  conv=>whnf
  obtain ⟨l12DrawSources0,hb23,h⟩:=Option.bind_eq_some_iff.1 h
  refine ⟨?_,?_⟩
  rotate_left
  focus
   conv=>whnf
   refine ⟨by kernel_rfl,?_⟩
   conv=>whnf
   refine ⟨_,hb23,?_⟩
   conv=>whnf
   refine ⟨?_,?_⟩
   rotate_left
   focus
    conv=>whnf
    refine ⟨trivial,?_⟩
   rotate_right
   focus
    conv=>whnf
    refine ⟨trivial,?_⟩
  rotate_right
  focus
   conv=>whnf
   refine ⟨by kernel_rfl,?_⟩
   conv=>whnf
   refine ⟨_,hb23,?_⟩
   conv=>whnf
   refine ⟨trivial,?_⟩
  all_goals
   conv=>whnf
   cases h
   exact hK
 focus
  conv=>whnf
  refine ⟨by kernel_rfl,?_⟩
  conv=>whnf
  refine ⟨by kernel_rfl,?_⟩
  conv=>whnf
  obtain ⟨l12DrawSources0,hb24,h⟩:=Option.bind_eq_some_iff.1 h
  refine ⟨?_,?_⟩
  rotate_left
  focus
   conv=>whnf
   refine ⟨by kernel_rfl,?_⟩
   conv=>whnf
   refine ⟨_,hb24,?_⟩
   conv=>whnf
   refine ⟨?_,?_⟩
   rotate_left
   focus
    conv=>whnf
    refine ⟨trivial,?_⟩
   rotate_right
   focus
    conv=>whnf
    refine ⟨trivial,?_⟩
  rotate_right
  focus
   conv=>whnf
   refine ⟨by kernel_rfl,?_⟩
   conv=>whnf
   refine ⟨_,hb24,?_⟩
   conv=>whnf
   refine ⟨trivial,?_⟩
  all_goals
   conv=>whnf
   cases h
   exact hK
 focus
  conv=>whnf
  refine ⟨by kernel_rfl,?_⟩
  conv=>whnf
  refine ⟨by kernel_rfl,?_⟩
  conv=>whnf
  obtain ⟨l12DrawSources0,hb25,h⟩:=Option.bind_eq_some_iff.1 h
  refine ⟨?_,?_⟩
  rotate_left
  focus
   conv=>whnf
   refine ⟨by kernel_rfl,?_⟩
   conv=>whnf
   refine ⟨_,hb25,?_⟩
   conv=>whnf
   refine ⟨?_,?_⟩
   rotate_left
   focus
    conv=>whnf
    refine ⟨trivial,?_⟩
   rotate_right
   focus
    conv=>whnf
    refine ⟨trivial,?_⟩
  rotate_right
  focus
   conv=>whnf
   refine ⟨by kernel_rfl,?_⟩
   conv=>whnf
   refine ⟨_,hb25,?_⟩
   conv=>whnf
   refine ⟨trivial,?_⟩
  all_goals
   conv=>whnf
   cases h
   exact hK
end Go.Proofs.YtnnbgbgapogckaaGreatDoor
