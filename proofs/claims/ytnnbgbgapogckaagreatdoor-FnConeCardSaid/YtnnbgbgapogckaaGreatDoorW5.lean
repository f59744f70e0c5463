/-
  The functions keep their contracts, if what they call does. Printed by program.
-/
import Derived.Test.YtnnbgbgapogckaaGreatDoorM
import Derived.KernelRfl
namespace Go.Proofs.YtnnbgbgapogckaaGreatDoor
open Go Go.Sx
set_option maxRecDepth 100000
set_option maxHeartbeats 6400000
set_option linter.unusedVariables false
set_option linter.unusedSimpArgs false
theorem ZFS (q0:Sq 134 ZA0) (q1:Sq 83 c105) (q2:Sq 192 ZA1) (q3:Sq 193 ZA2):Sq 113 ZA3:=by
 refine Zm ZL (Zg q0 (Zg q1 (Zg q2 (Zg q3 Zu)))) mixed {loops:=[(0,[.reg 27 (.dat Iq),.ent 2 (nat_lit 2) (.flat (Ty.int IntKind.i64))]),(2,[.reg 10 (.dat Iq),.ent 2 (nat_lit 2) (.flat (Ty.int IntKind.i64))])],draws:=[(7,[0,0,2,0,14,30,63,127,0,256,0,1024,0,0,12288,28672,65280,131071,262143,524287],.op 0 (.op 1 (.op 2 (.op 3 (.op 4 (.op 5 (.op 6 (.op 7 (.op 8 (.op 9 (.op 10 (.op 11 (.op 12 (.op 13 (.op 14 (.op 15 (.alt 16 (.op 17 (.op 18 (.alt 19 (.done) (.done)))) (.done)))))))))))))))))),(12,[0,0,2,0,14,30,63,127,0,0,768,1792,4095,8191,16383],.op 0 (.op 1 (.op 2 (.op 3 (.op 4 (.op 5 (.op 6 (.op 7 (.op 8 (.op 9 (.op 10 (.op 11 (.op 12 (.op 13 (.alt 14 (.done) (.done))))))))))))))))]} (fn:=Tryz.f113) Tryz.func113 (by kernel_rfl) (by kernel_rfl) ?_
 rintro ⟨a0,a1,⟨⟩⟩ K ⟨r,h,hK⟩
 change ZDY a0 a1=some r at h
 unfold ZDY at h
 conv=>whnf
 refine vAt h (fun x0 he0a he0b he0x h=>?_)
 conv=>whnf
 refine Ze h (fun int64_0 hb1 h=>?_)
 conv=>whnf
 refine Ze h (fun places0 hb2 h=>?_)
 conv=>whnf
 refine Ze h (fun sinks0 hb3 h=>?_)
 conv=>whnf
 refine YH h ?_
 rintro I4 μ4 ⟨v0,l0,⟨⟩⟩ zs4 h hI4 hR4
 change ZD0 a0 x0 places0 sinks0 v0 l0=some zs4 at h
 unfold ZD0 at h
 conv=>whnf
 refine ZG h (fun h=>?_) (fun h=>?_)
 conv=>whnf
 refine vAt h (fun x1 he5a he5b he5x h=>?_)
 conv=>whnf
 refine ⟨by kernel_rfl,?_⟩
 conv=>whnf
 refine ⟨he5a,he5b,Zh he5x ?_⟩
 conv=>whnf
 refine ⟨by kernel_rfl,?_⟩
 conv=>whnf
 refine vAt h (fun x2 he6a he6b he6x h=>?_)
 conv=>whnf
 refine vAt h (fun x3 he7a he7b he7x h=>?_)
 conv=>whnf
 refine ⟨by kernel_rfl,?_⟩
 conv=>whnf
 refine ⟨he7a,he7b,Zh he7x ?_⟩
 conv=>whnf
 refine vAt h (fun x4 he8a he8b he8x h=>?_)
 conv=>whnf
 refine ⟨by kernel_rfl,?_⟩
 conv=>whnf
 refine ⟨he8a,he8b,Zh he8x ?_⟩
 conv=>whnf
 refine Ze h (fun capOf0 hb9 h=>?_)
 conv=>whnf
 refine ⟨he7a,he7b,Zh he7x ?_⟩
 conv=>whnf
 refine ⟨by kernel_rfl,?_⟩
 conv=>whnf
 refine ⟨by decide,?_⟩
 conv=>whnf
 refine ⟨he7a,he7b,Zh he7x ?_⟩
 conv=>whnf
 refine ⟨trivial,?_⟩
 conv=>whnf
 cases h
 exact ⟨⟨rfl,rfl⟩,hI4 _ rfl⟩
 conv=>whnf
 refine YH h ?_
 rintro I10 μ10 ⟨v1,l1,⟨⟩⟩ zs10 h hI10 hR10
 change ZDZ x0 v1 l1=some zs10 at h
 unfold ZDZ at h
 conv=>whnf
 refine ZG h (fun h=>?_) (fun h=>?_)
 conv=>whnf
 refine ⟨by kernel_rfl,?_⟩
 conv=>whnf
 refine vAt h (fun x1 he11a he11b he11x h=>?_)
 conv=>whnf
 refine vAt h (fun x2 he12a he12b he12x h=>?_)
 conv=>whnf
 refine ⟨by kernel_rfl,?_⟩
 conv=>whnf
 refine ⟨he12a,he12b,Zh he12x ?_⟩
 conv=>whnf
 refine vAt h (fun x3 he13a he13b he13x h=>?_)
 conv=>whnf
 refine ⟨by kernel_rfl,?_⟩
 conv=>whnf
 refine ⟨he13a,he13b,Zh he13x ?_⟩
 conv=>whnf
 refine ⟨he12a,he12b,Zh he12x ?_⟩
 conv=>whnf
 refine ⟨by kernel_rfl,?_⟩
 conv=>whnf
 refine ⟨by decide,?_⟩
 conv=>whnf
 refine ⟨he12a,he12b,Zh he12x ?_⟩
 conv=>whnf
 refine ⟨trivial,?_⟩
 conv=>whnf
 cases h
 exact ⟨⟨rfl,rfl⟩,hI10 _ rfl⟩
 conv=>whnf
 cases h
 obtain rfl:=hR10 _ rfl
 obtain rfl:=hR4 _ rfl
 exact hK
theorem w89 (q0:Sq 276 c88):Sq 279 c89:=by
 refine Zm ZL (Zg q0 Zu) mixed {} (fn:=Tryz.f279) Tryz.func279 (by kernel_rfl) (by kernel_rfl) ?_
 rintro ⟨c0,kind0,⟨⟩⟩ K ⟨r,h,hK⟩
 change ZqD c0 kind0=some r at h
 unfold ZqD at h
 conv=>whnf
 refine Ze h (fun c1_0 hb0 h=>?_)
 conv=>whnf
 cases h
 exact hK
theorem w80 (q0:Sq 278 c79) (q1:Sq 159 c55):Sq 295 c80:=by
 refine Zm ZL (Zg q0 (Zg q1 Zu)) mixed {} (fn:=Tryz.f295) Tryz.func295 (by kernel_rfl) (by kernel_rfl) ?_
 rintro ⟨c0,pin0,⟨⟩⟩ K ⟨r,h,hK⟩
 change Zrp c0 pin0=some r at h
 unfold Zrp at h
 conv=>whnf
 refine Ze h (fun output0 hb0 h=>?_)
 conv=>whnf
 refine Ze h (fun within0 hb1 h=>?_)
 conv=>whnf
 cases h
 exact hK
theorem ZGb (q1:Sq 74 ZBe) (q0:Sq 65 ZA8) (q2:Sq 64 c127):Sq 24 ZBf:=by
 refine Zm ZL (Zg q1 (Zg q0 (Zg q2 Zu))) mixed {} (fn:=Tryz.f24) Tryz.func24 (by kernel_rfl) (by kernel_rfl) ?_
 rintro ⟨b0,broken0,node0,⟨⟩⟩ K ⟨r,h,hK⟩
 change ZHG b0 broken0 node0=some r at h
 unfold ZHG at h
 conv=>whnf
 refine Ze h (fun nodeGraph0 hb0 h=>?_)
 conv=>whnf
 refine Yc ?_
 refine ZG h (fun h=>?_) (fun h=>?_)
 conv=>whnf
 refine Ze h (fun fst0 hb1 h=>?_)
 conv=>whnf
 refine Ze h (fun forward0 hb2 h=>?_)
 conv=>whnf
 refine Ze h (fun indicesOf0 hb3 h=>?_)
 conv=>whnf
 cases h
 exact hK
 conv=>whnf
 cases h
 exact hK
theorem w91 (q3:Sq 212 c56) (q2:Sq 250 c61) (q1:Sq 251 c85) (q4:Sq 159 c55) (q0:Sq 252 c90):Sq 216 c91:=by
 refine Zm ZL (Zg q3 (Zg q2 (Zg q1 (Zg q4 (Zg q0 Zu))))) mixed {} (fn:=Tryz.f216) Tryz.func216 (by kernel_rfl) (by kernel_rfl) ?_
 rintro ⟨c0,⟨⟩⟩ K ⟨r,h,hK⟩
 change ZuL c0=some r at h
 unfold ZuL at h
 conv=>whnf
 refine Ze h (fun isName0 hb0 h=>?_)
 conv=>whnf
 refine Qn h (fun h=>?_) (fun h=>?_)
 conv=>whnf
 refine Ze h (fun arePins0 hb1 h=>?_)
 conv=>whnf
 refine Qn h (fun h=>?_) (fun h=>?_)
 conv=>whnf
 refine Ze h (fun areArcs0 hb2 h=>?_)
 conv=>whnf
 refine Qn h (fun h=>?_) (fun h=>?_)
 conv=>whnf
 refine Ze h (fun within0 hb3 h=>?_)
 conv=>whnf
 refine Qn h (fun h=>?_) (fun h=>?_)
 conv=>whnf
 refine Ze h (fun within1 hb4 h=>?_)
 conv=>whnf
 refine Qn h (fun h=>?_) (fun h=>?_)
 conv=>whnf
 refine Ze h (fun isOfKind0 hb5 h=>?_)
 conv=>whnf
 cases h
 exact hK
 conv=>whnf
 cases h
 exact hK
 conv=>whnf
 cases h
 exact hK
 conv=>whnf
 cases h
 exact hK
 conv=>whnf
 cases h
 exact hK
 conv=>whnf
 cases h
 exact hK
theorem w92 (q1:Sq 216 c91) (q0:Sq 188 c60):Sq 153 c92:=by
 refine Zm ZL (Zg q1 (Zg q0 Zu)) mixed {loops:=[(0,[.reg 3 (.own (.ol 9 (.flat (.str)))),.reg 9 (.dat Iq)])]} (fn:=Tryz.f153) Tryz.func153 (by kernel_rfl) (by kernel_rfl) ?_
 rintro ⟨l0,⟨⟩⟩ K ⟨r,h,hK⟩
 change Ztx l0=some r at h
 unfold Ztx at h
 conv=>whnf
 refine YH h ?_
 rintro I0 μ0 ⟨names0,v0,⟨⟩⟩ zs0 h hI0 hR0
 change ZqB l0 names0 v0=some zs0 at h
 unfold ZqB at h
 conv=>whnf
 refine ZG h (fun h=>?_) (fun h=>?_)
 conv=>whnf
 refine vAt h (fun x0 he1a he1b he1x h=>?_)
 conv=>whnf
 refine Ze h (fun IsCell0 hb2 h=>?_)
 conv=>whnf
 refine Yc ?_
 refine Qn h (fun h=>?_) (fun h=>?_)
 conv=>whnf
 refine Yk h (fun hp3 h=>?_)
 conv=>whnf
 cases h
 exact ⟨⟨rfl,rfl⟩,hI0 _ rfl⟩
 conv=>whnf
 cases h
 obtain rfl:=hR0 _ rfl
 exact hK
 conv=>whnf
 refine ZG h (fun h=>?_) (fun h=>?_)
 conv=>whnf
 refine Ze h (fun areNames0 hb4 h=>?_)
 conv=>whnf
 cases h
 obtain rfl:=hR0 _ rfl
 exact hK
 conv=>whnf
 cases h
 obtain rfl:=hR0 _ rfl
 exact hK
theorem ZF2:Sq 66 ZA7:=by
 refine Zm ZL Zu mixed {draws:=[(1,[0,1,0,4,3,31],.op 0 (.op 1 (.op 2 (.op 3 (.op 4 (.op 5 (.done)))))))]} (fn:=Tryz.f66) Tryz.func66 (by kernel_rfl) (by kernel_rfl) ?_
 rintro ⟨l0,⟨⟩⟩ K ⟨r,h,hK⟩
 change ZHI l0=some r at h
 unfold ZHI at h
 conv=>whnf
 refine ⟨by kernel_rfl,?_⟩
 conv=>whnf
 refine ⟨trivial,?_⟩
 conv=>whnf
 cases h
 exact hK
theorem w57:Sq 274 c57:=by
 refine Zm ZL Zu mixed {} (fn:=Tryz.f274) Tryz.func274 (by kernel_rfl) (by kernel_rfl) ?_
 rintro ⟨list0,⟨⟩⟩ K ⟨r,h,hK⟩
 change Zri list0=some r at h
 unfold Zri at h
 conv=>whnf
 cases h
 exact hK
theorem w63:Sq 158 c63:=by
 refine Zm ZL Zu mixed {} (fn:=Tryz.f158) Tryz.func158 (by kernel_rfl) (by kernel_rfl) ?_
 rintro ⟨list0,⟨⟩⟩ K ⟨r,h,hK⟩
 change ZpM list0=some r at h
 unfold ZpM at h
 conv=>whnf
 cases h
 exact hK
theorem w88 (q0:Sq 296 c87):Sq 276 c88:=by
 refine Zm ZL (Zg q0 Zu) mixed {} (fn:=Tryz.f276) Tryz.func276 (by kernel_rfl) (by kernel_rfl) ?_
 rintro ⟨s0,f0,⟨⟩⟩ K ⟨r,h,hK⟩
 change Zpo s0 f0=some r at h
 unfold Zpo at h
 conv=>whnf
 refine Ze h (fun c1_0 hb0 h=>?_)
 conv=>whnf
 cases h
 exact hK
theorem w87 (q0:Sq 297 c86):Sq 296 c87:=by
 refine Zm ZL (Zg q0 Zu) mixed {loops:=[(0,[.reg 8 (.dat Iq)])]} (fn:=Tryz.f296) Tryz.func296 (by kernel_rfl) (by kernel_rfl) ?_
 rintro ⟨s0,f0,⟨⟩⟩ K ⟨r,h,hK⟩
 change Zps s0 f0=some r at h
 unfold Zps at h
 conv=>whnf
 refine YH h ?_
 rintro I0 μ0 ⟨v0,⟨⟩⟩ zs0 h hI0 hR0
 change ZpB s0 f0 v0=some zs0 at h
 unfold ZpB at h
 conv=>whnf
 refine ZG h (fun h=>?_) (fun h=>?_)
 conv=>whnf
 refine vAt h (fun x0 he1a he1b he1x h=>?_)
 conv=>whnf
 refine Ze h (fun c1_0 hb2 h=>?_)
 conv=>whnf
 refine Qn h (fun h=>?_) (fun h=>?_)
 conv=>whnf
 cases h
 obtain rfl:=hR0 _ rfl
 exact hK
 conv=>whnf
 cases h
 exact ⟨⟨rfl,rfl⟩,hI0 _ rfl⟩
 conv=>whnf
 cases h
 obtain rfl:=hR0 _ rfl
 exact hK
theorem w58:Sq 249 c58:=by
 refine Zm ZL Zu mixed {loops:=[(0,[.reg 8 (.dat Iq)])]} (fn:=Tryz.f249) Tryz.func249 (by kernel_rfl) (by kernel_rfl) ?_
 rintro ⟨s0,v0,⟨⟩⟩ K ⟨r,h,hK⟩
 change ZP s0 v0=some r at h
 unfold ZP at h
 conv=>whnf
 refine YH h ?_
 rintro I0 μ0 ⟨v1,⟨⟩⟩ zs0 h hI0 hR0
 change ZM s0 v0 v1=some zs0 at h
 unfold ZM at h
 conv=>whnf
 refine ZG h (fun h=>?_) (fun h=>?_)
 conv=>whnf
 refine vAt h (fun x0 he1a he1b he1x h=>?_)
 conv=>whnf
 refine ZG h (fun h=>?_) (fun h=>?_)
 conv=>whnf
 cases h
 obtain rfl:=hR0 _ rfl
 exact hK
 conv=>whnf
 cases h
 exact ⟨⟨rfl,rfl⟩,hI0 _ rfl⟩
 conv=>whnf
 cases h
 obtain rfl:=hR0 _ rfl
 exact hK
theorem w54 (q2:Sq 42 c1) (q1:Sq 60 c52) (q0:Sq 61 c53):Sq 21 c54:=by
 refine Zm ZL (Zg q2 (Zg q1 (Zg q0 Zu))) mixed {draws:=[(3,[0,0,0,0,12,29,63,127],.op 1 (.op 2 (.op 3 (.ld 0 (.alt 4 (.alt 5 (.op 6 (.op 7 (.done))) (.done)) (.done))))))]} (fn:=Tryz.f21) Tryz.func21 (by kernel_rfl) (by kernel_rfl) ?_
 rintro ⟨code0,⟨⟩⟩ K ⟨r,h,hK⟩
 change ZHs code0=some r at h
 unfold ZHs at h
 conv=>whnf
 refine Ze h (fun l01From0 hb0 h=>?_)
 conv=>whnf
 refine Ze h (fun l12DrawCase0 hb1 h=>?_)
 conv=>whnf
 refine ⟨by kernel_rfl,?_⟩
 conv=>whnf
 refine ⟨by kernel_rfl,?_⟩
 conv=>whnf
 refine ⟨by kernel_rfl,?_⟩
 conv=>whnf
 refine Ze h (fun l32DrawNodes0 hb2 h=>?_)
 conv=>whnf
 refine ⟨trivial,?_⟩
 conv=>whnf
 cases h
 exact hK
theorem w27 (q0:Sq 318 c26):Sq 300 c27:=by
 refine Zm ZL (Zg q0 Zu) mixed {loops:=[(0,[.reg 5 (.dat Iq),.cell 1004 0 Iq,.cell 1004 1 Iq])],draws:=[(3,[0,1,3,7,0,16,48,112,255,0,1023],.op 0 (.op 1 (.op 2 (.op 3 (.op 4 (.op 5 (.op 6 (.op 7 (.op 8 (.alt 9 (.alt 10 (.done) (.done)) (.done))))))))))),(7,[0,1,0,4,0,28,60,127,255,511],.op 0 (.op 1 (.op 2 (.op 3 (.op 4 (.op 5 (.op 6 (.op 7 (.op 8 (.alt 9 (.done) (.done))))))))))),(8,[0,1,0,4,0,28,60,127,255,511],.op 0 (.op 1 (.op 2 (.op 3 (.op 4 (.op 5 (.op 6 (.op 7 (.op 8 (.alt 9 (.done) (.done)))))))))))]} (fn:=Tryz.f300) Tryz.func300 (by kernel_rfl) (by kernel_rfl) ?_
 rintro ⟨t0,⟨⟩⟩ K ⟨r,h,hK⟩
 change ZsF t0=some r at h
 unfold ZsF at h
 conv=>whnf
 refine Ze h (fun IsTable0 hb0 h=>?_)
 conv=>whnf
 refine Yc ?_
 refine Qn h (fun h=>?_) (fun h=>?_)
 conv=>whnf
 refine ⟨by kernel_rfl,?_⟩
 conv=>whnf
 refine vAt h (fun x0 he1a he1b he1x h=>?_)
 conv=>whnf
 refine ⟨he1a,he1b,Zh he1x ?_⟩
 conv=>whnf
 refine ⟨trivial,?_⟩
 conv=>whnf
 refine YH h ?_
 rintro I2 μ2 ⟨i0,c0,c1,⟨⟩⟩ zs2 h hI2 hR2
 change Zq0 t0 i0 c0 c1=some zs2 at h
 unfold Zq0 at h
 conv=>whnf
 refine ZG h (fun h=>?_) (fun h=>?_)
 conv=>whnf
 refine ⟨by kernel_rfl,?_⟩
 conv=>whnf
 refine vAt h (fun x1 he3a he3b he3x h=>?_)
 conv=>whnf
 refine ⟨trivial,?_⟩
 conv=>whnf
 refine ⟨by kernel_rfl,?_⟩
 conv=>whnf
 refine ⟨he3a,he3b,Zh he3x ?_⟩
 conv=>whnf
 refine ⟨trivial,?_⟩
 conv=>whnf
 cases h
 exact ⟨⟨rfl,rfl⟩,hI2 _ rfl⟩
 conv=>whnf
 cases h
 obtain rfl:=hR2 _ rfl
 exact hK
 conv=>whnf
 cases h
 exact hK
theorem w29 (q1:Sq 114 c23) (q0:Sq 285 c28):Sq 261 c29:=by
 refine Zm ZL (Zg q1 (Zg q0 Zu)) mixed {} (fn:=Tryz.f261) Tryz.func261 (by kernel_rfl) (by kernel_rfl) ?_
 rintro ⟨a0,a1,⟨⟩⟩ K ⟨r,h,hK⟩
 change ZuP a0 a1=some r at h
 unfold ZuP at h
 conv=>whnf
 refine Ze h (fun l01In0 hb0 h=>?_)
 conv=>whnf
 refine Zj4 ?_
 refine Qn h (fun h=>?_) (fun h=>?_)
 conv=>whnf
 refine Ze h (fun l01In1 hb1 h=>?_)
 conv=>whnf
 refine Yc ?_
 refine Qn h (fun h=>?_) (fun h=>?_)
 conv=>whnf
 refine vAt h (fun x0 he2a he2b he2x h=>?_)
 conv=>whnf
 refine ZG h (fun h=>?_) (fun h=>?_)
 conv=>whnf
 refine Yc ?_
 refine Qn h (fun h=>?_) (fun h=>?_)
 conv=>whnf
 cases h
 exact hK
 conv=>whnf
 refine ZG h (fun h=>?_) (fun h=>?_)
 conv=>whnf
 refine Ze h (fun l01In2 hb3 h=>?_)
 conv=>whnf
 refine Qn h (fun h=>?_) (fun h=>?_)
 conv=>whnf
 refine Ze h (fun l03Tables0 hb4 h=>?_)
 conv=>whnf
 refine Qn h (fun h=>?_) (fun h=>?_)
 conv=>whnf
 refine Ze h (fun l03Tables1 hb5 h=>?_)
 conv=>whnf
 cases h
 exact hK
 conv=>whnf
 cases h
 exact hK
 conv=>whnf
 cases h
 exact hK
 conv=>whnf
 cases h
 exact hK
 conv=>whnf
 refine ZG h (fun h=>?_) (fun h=>?_)
 conv=>whnf
 refine ZG h (fun h=>?_) (fun h=>?_)
 conv=>whnf
 refine Qn h (fun h=>?_) (fun h=>?_)
 conv=>whnf
 refine ZG h (fun h=>?_) (fun h=>?_)
 conv=>whnf
 refine ZG h (fun h=>?_) (fun h=>?_)
 conv=>whnf
 refine Ze h (fun l03Tables0 hb6 h=>?_)
 conv=>whnf
 refine Qn h (fun h=>?_) (fun h=>?_)
 conv=>whnf
 refine Ze h (fun l03Tables1 hb7 h=>?_)
 conv=>whnf
 cases h
 exact hK
 conv=>whnf
 cases h
 exact hK
 conv=>whnf
 cases h
 exact hK
 conv=>whnf
 cases h
 exact hK
 conv=>whnf
 cases h
 exact hK
 conv=>whnf
 refine ZG h (fun h=>?_) (fun h=>?_)
 conv=>whnf
 refine ZG h (fun h=>?_) (fun h=>?_)
 conv=>whnf
 refine Qn h (fun h=>?_) (fun h=>?_)
 conv=>whnf
 refine ZG h (fun h=>?_) (fun h=>?_)
 conv=>whnf
 refine vAt h (fun x1 he8a he8b he8x h=>?_)
 conv=>whnf
 refine Yc ?_
 refine Qn h (fun h=>?_) (fun h=>?_)
 conv=>whnf
 cases h
 exact hK
 conv=>whnf
 refine ZG h (fun h=>?_) (fun h=>?_)
 conv=>whnf
 refine Ze h (fun l03Tables0 hb9 h=>?_)
 conv=>whnf
 refine Qn h (fun h=>?_) (fun h=>?_)
 conv=>whnf
 cases h
 exact hK
 conv=>whnf
 cases h
 exact hK
 conv=>whnf
 cases h
 exact hK
 conv=>whnf
 cases h
 exact hK
 conv=>whnf
 cases h
 exact hK
 conv=>whnf
 cases h
 exact hK
 conv=>whnf
 refine ZG h (fun h=>?_) (fun h=>?_)
 conv=>whnf
 refine Qn h (fun h=>?_) (fun h=>?_)
 conv=>whnf
 refine ZG h (fun h=>?_) (fun h=>?_)
 conv=>whnf
 refine vAt h (fun x1 he10a he10b he10x h=>?_)
 conv=>whnf
 refine Yc ?_
 refine Qn h (fun h=>?_) (fun h=>?_)
 conv=>whnf
 cases h
 exact hK
 conv=>whnf
 refine ZG h (fun h=>?_) (fun h=>?_)
 conv=>whnf
 refine Ze h (fun l03Tables0 hb11 h=>?_)
 conv=>whnf
 refine Qn h (fun h=>?_) (fun h=>?_)
 conv=>whnf
 cases h
 exact hK
 conv=>whnf
 cases h
 exact hK
 conv=>whnf
 cases h
 exact hK
 conv=>whnf
 cases h
 exact hK
 conv=>whnf
 cases h
 exact hK
 conv=>whnf
 cases h
 exact hK
 conv=>whnf
 refine ZG h (fun h=>?_) (fun h=>?_)
 conv=>whnf
 refine Qn h (fun h=>?_) (fun h=>?_)
 conv=>whnf
 refine ZG h (fun h=>?_) (fun h=>?_)
 conv=>whnf
 refine ZG h (fun h=>?_) (fun h=>?_)
 conv=>whnf
 refine Ze h (fun l03Tables0 hb12 h=>?_)
 conv=>whnf
 refine Qn h (fun h=>?_) (fun h=>?_)
 conv=>whnf
 refine Ze h (fun l03Tables1 hb13 h=>?_)
 conv=>whnf
 cases h
 exact hK
 conv=>whnf
 cases h
 exact hK
 conv=>whnf
 cases h
 exact hK
 conv=>whnf
 cases h
 exact hK
 conv=>whnf
 cases h
 exact hK
 conv=>whnf
 refine ZG h (fun h=>?_) (fun h=>?_)
 conv=>whnf
 refine ZG h (fun h=>?_) (fun h=>?_)
 conv=>whnf
 refine Qn h (fun h=>?_) (fun h=>?_)
 conv=>whnf
 refine ZG h (fun h=>?_) (fun h=>?_)
 conv=>whnf
 refine vAt h (fun x1 he14a he14b he14x h=>?_)
 conv=>whnf
 refine Yc ?_
 refine Qn h (fun h=>?_) (fun h=>?_)
 conv=>whnf
 cases h
 exact hK
 conv=>whnf
 refine ZG h (fun h=>?_) (fun h=>?_)
 conv=>whnf
 refine Ze h (fun l03Tables0 hb15 h=>?_)
 conv=>whnf
 refine Qn h (fun h=>?_) (fun h=>?_)
 conv=>whnf
 cases h
 exact hK
 conv=>whnf
 cases h
 exact hK
 conv=>whnf
 cases h
 exact hK
 conv=>whnf
 cases h
 exact hK
 conv=>whnf
 cases h
 exact hK
 conv=>whnf
 cases h
 exact hK
 conv=>whnf
 refine ZG h (fun h=>?_) (fun h=>?_)
 conv=>whnf
 refine Qn h (fun h=>?_) (fun h=>?_)
 conv=>whnf
 refine ZG h (fun h=>?_) (fun h=>?_)
 conv=>whnf
 refine vAt h (fun x1 he16a he16b he16x h=>?_)
 conv=>whnf
 refine Yc ?_
 refine Qn h (fun h=>?_) (fun h=>?_)
 conv=>whnf
 cases h
 exact hK
 conv=>whnf
 refine ZG h (fun h=>?_) (fun h=>?_)
 conv=>whnf
 refine Ze h (fun l03Tables0 hb17 h=>?_)
 conv=>whnf
 refine Qn h (fun h=>?_) (fun h=>?_)
 conv=>whnf
 cases h
 exact hK
 conv=>whnf
 cases h
 exact hK
 conv=>whnf
 cases h
 exact hK
 conv=>whnf
 cases h
 exact hK
 conv=>whnf
 cases h
 exact hK
 conv=>whnf
 cases h
 exact hK
 conv=>whnf
 cases h
 exact hK
 conv=>whnf
 cases h
 exact hK
theorem w8 (q2:Sq 44 c2) (q1:Sq 263 c3) (q0:Sq 264 c7):Sq 238 c8:=by
 refine Zm VX (Zg q2 (Zg q1 (Zg q0 Zu))) mixed {loops:=[(0,[.reg 9 (.own (.ol 255 (.flat (Zl9)))),.reg 10 (.dat Iq),.cell 1000 0 (.sl (.int .u8)),.cell 1000 1 Iq,.cell 1000 2 Iq]),(2,[.reg 12 (.own (.ol 219 (ZmF))),.reg 13 (.dat Iq),.cell 1000 0 (.sl (.int .u8)),.cell 1000 1 Iq,.cell 1000 2 Iq])],draws:=[(7,[0,0,0,4,14,30,0,64,192,510,1022,2047,4095],.op 0 (.op 1 (.op 2 (.op 3 (.op 4 (.op 6 (.alt 5 (.alt 7 (.op 8 (.op 9 (.alt 10 (.alt 11 (.op 12 (.done)) (.done)) (.done)))) (.done)) (.alt 7 (.op 8 (.alt 5 (.op 9 (.alt 10 (.alt 11 (.op 12 (.done)) (.done)) (.done))) (.done))) (.done)))))))))]} (fn:=Tryz.f238) Tryz.func238 (by kernel_rfl) (by kernel_rfl) ?_
 rintro ⟨a0,a1,a2,⟨⟩⟩ K ⟨r,h,hK⟩
 change Y3 a0 a1 a2=some r at h
 unfold Y3 at h
 conv=>whnf
 refine Ze h (fun l01Next0 hb0 h=>?_)
 conv=>whnf
 refine Ze h (fun l01Next1 hb1 h=>?_)
 conv=>whnf
 refine YH h ?_
 rintro I2 μ2 ⟨v0,v1,c0,c1,c2,⟨⟩⟩ zs2 h hI2 hR2
 change Xt a1 a2 l01Next0 l01Next1 v0 v1 c0 c1 c2=some zs2 at h
 unfold Xt at h
 conv=>whnf
 refine ZG h (fun h=>?_) (fun h=>?_)
 focus
  conv=>whnf
  refine ⟨by kernel_rfl,?_⟩
  conv=>whnf
  refine vAt h (fun x0 he3a he3b he3x h=>?_)
  conv=>whnf
  obtain ⟨l01Next2,hb4,h⟩:=Option.bind_eq_some_iff.1 h
  obtain ⟨hp5,h⟩:=guardE h
  refine ⟨?_,?_⟩
  rotate_left
  focus
   conv=>whnf
   refine ⟨_,hb4,?_⟩
   conv=>whnf
   refine ⟨by kernel_rfl,?_⟩
   conv=>whnf
   refine ⟨he3a,he3b,Zh he3x ?_⟩
   conv=>whnf
   refine ⟨hp5,?_⟩
   conv=>whnf
   refine ⟨trivial,?_⟩
  rotate_right
  focus
   conv=>whnf
   refine ⟨by kernel_rfl,?_⟩
   conv=>whnf
   refine ⟨he3a,he3b,Zh he3x ?_⟩
   conv=>whnf
   refine ⟨_,hb4,?_⟩
   conv=>whnf
   refine ⟨hp5,?_⟩
   conv=>whnf
   refine ⟨trivial,?_⟩
  all_goals
   conv=>whnf
   cases h
   exact ⟨⟨rfl,rfl⟩,hI2 _ rfl⟩
 conv=>whnf
 refine Yk h (fun hp6 h=>?_)
 conv=>whnf
 intro fp7
 conv=>whnf
 refine YH h ?_
 rintro I8 μ8 ⟨v2,v3,c3,c4,c5,⟨⟩⟩ zs8 h hI8 hR8
 change Xr a1 a2 l01Next0 l01Next1 v0 v2 v3 c3 c4 c5=some zs8 at h
 unfold Xr at h
 conv=>whnf
 intro fp9
 conv=>whnf
 refine ZG h (fun h=>?_) (fun h=>?_)
 conv=>whnf
 refine Ze h (fun l03Sense0 hb10 h=>?_)
 conv=>whnf
 refine Yc ?_
 refine ZG h (fun h=>?_) (fun h=>?_)
 conv=>whnf
 cases h
 exact ⟨⟨rfl,rfl⟩,hI8 _ rfl⟩
 conv=>whnf
 refine Ze h (fun l03DrawArc0 hb11 h=>?_)
 conv=>whnf
 intro fp12
 conv=>whnf
 intro fp13
 conv=>whnf
 intro fp14
 conv=>whnf
 refine Yk h (fun hp15 h=>?_)
 conv=>whnf
 intro fp16
 conv=>whnf
 cases h
 exact ⟨⟨rfl,rfl⟩,hI8 _ rfl⟩
 conv=>whnf
 cases h
 obtain rfl:=hR8 _ rfl
 obtain rfl:=hR2 _ rfl
 exact hK
theorem w30:Sq 262 c30:=by
 refine Zm ZL Zu mixed {loops:=[(0,[.reg 4 (.dat Iq),.ent 1 (nat_lit 2) (.flat Znz.ety)])]} (fn:=Tryz.f262) Tryz.func262 (by kernel_rfl) (by kernel_rfl) ?_
 rintro ⟨c0,⟨⟩⟩ K ⟨r,h,hK⟩
 change ZtY c0=some r at h
 unfold ZtY at h
 conv=>whnf
 refine ⟨by decide,?_⟩
 conv=>whnf
 refine ⟨by decide,?_⟩
 conv=>whnf
 refine ⟨by decide,?_⟩
 conv=>whnf
 refine ⟨by decide,?_⟩
 conv=>whnf
 refine YH h ?_
 rintro I0 μ0 ⟨i0,l0,⟨⟩⟩ zs0 h hI0 hR0
 change ZrK c0 i0 l0=some zs0 at h
 unfold ZrK at h
 conv=>whnf
 refine ZG h (fun h=>?_) (fun h=>?_)
 conv=>whnf
 refine vAt h (fun x0 he1a he1b he1x h=>?_)
 conv=>whnf
 refine vAt h (fun x1 he2a he2b he2x h=>?_)
 conv=>whnf
 refine ⟨by kernel_rfl,?_⟩
 conv=>whnf
 refine ⟨he2a,he2b,Zh he2x ?_⟩
 conv=>whnf
 refine ⟨he2a,he2b,Zh he2x ?_⟩
 conv=>whnf
 refine ⟨by kernel_rfl,?_⟩
 conv=>whnf
 refine ⟨by decide,?_⟩
 conv=>whnf
 refine ⟨he2a,he2b,Zh he2x ?_⟩
 conv=>whnf
 cases h
 exact ⟨⟨rfl,rfl⟩,hI0 _ rfl⟩
 conv=>whnf
 cases h
 obtain rfl:=hR0 _ rfl
 exact hK
theorem w40 (q0:Sq 140 c39):Sq 136 c40:=by
 refine Zm VX (Zg q0 Zu) mixed {loops:=[(0,[.reg 0 (.own (.ol 211 (.flat (Zl8)))),.reg 11 (.dat Iq)]),(2,[.reg 0 (.own (.ol 211 (.flat (Zl8)))),.reg 12 (.dat Iq)])]} (fn:=Tryz.f136) Tryz.func136 (by kernel_rfl) (by kernel_rfl) ?_
 rintro ⟨list0,arc0,from0,to0,index0,⟨⟩⟩ K ⟨r,h,hK⟩
 change ZHH list0 arc0 from0 to0 index0=some r at h
 unfold ZHH at h
 conv=>whnf
 refine YH h ?_
 rintro I0 μ0 ⟨list1,a0,⟨⟩⟩ zs0 h hI0 hR0
 change ZGD arc0 from0 to0 index0 list1 a0=some zs0 at h
 unfold ZGD at h
 conv=>whnf
 refine ZG h (fun h=>?_) (fun h=>?_)
 conv=>whnf
 refine YH h ?_
 rintro I1 μ1 ⟨list2,b0,⟨⟩⟩ zs1 h hI1 hR1
 change ZGP arc0 from0 to0 index0 a0 list2 b0=some zs1 at h
 unfold ZGP at h
 conv=>whnf
 refine ZG h (fun h=>?_) (fun h=>?_)
 conv=>whnf
 refine ZG h (fun h=>?_) (fun h=>?_)
 conv=>whnf
 refine ZcV h (fun h=>?_) (fun h=>?_)
 conv=>whnf
 refine Ze h (fun l09Pair0 hb2 h=>?_)
 conv=>whnf
 cases h
 exact ⟨⟨rfl,rfl⟩,hI1 _ rfl⟩
 conv=>whnf
 refine Qn h (fun h=>?_) (fun h=>?_)
 conv=>whnf
 refine Ze h (fun l09Pair0 hb3 h=>?_)
 conv=>whnf
 cases h
 exact ⟨⟨rfl,rfl⟩,hI1 _ rfl⟩
 conv=>whnf
 cases h
 exact ⟨⟨rfl,rfl⟩,hI1 _ rfl⟩
 conv=>whnf
 refine ZG h (fun h=>?_) (fun h=>?_)
 conv=>whnf
 refine ZG h (fun h=>?_) (fun h=>?_)
 conv=>whnf
 refine Ze h (fun l09Pair0 hb4 h=>?_)
 conv=>whnf
 cases h
 exact ⟨⟨rfl,rfl⟩,hI1 _ rfl⟩
 conv=>whnf
 cases h
 exact ⟨⟨rfl,rfl⟩,hI1 _ rfl⟩
 conv=>whnf
 refine ZG h (fun h=>?_) (fun h=>?_)
 conv=>whnf
 refine ZG h (fun h=>?_) (fun h=>?_)
 conv=>whnf
 refine Ze h (fun l09Pair0 hb5 h=>?_)
 conv=>whnf
 cases h
 exact ⟨⟨rfl,rfl⟩,hI1 _ rfl⟩
 conv=>whnf
 cases h
 exact ⟨⟨rfl,rfl⟩,hI1 _ rfl⟩
 conv=>whnf
 cases h
 exact ⟨⟨rfl,rfl⟩,hI1 _ rfl⟩
 conv=>whnf
 cases h
 obtain rfl:=hR1 _ rfl
 exact ⟨⟨rfl,rfl⟩,hI0 _ rfl⟩
 conv=>whnf
 cases h
 obtain rfl:=hR0 _ rfl
 exact hK
theorem w47:Sq 72 c47:=by
 refine Zm ZL Zu mixed {loops:=[(0,[.reg 12 (.dat (.bool)),.ent 0 (nat_lit 4) (.flat ZIh.ety)]),(2,[.reg 12 (.dat (.bool)),.reg 13 (.dat Iq),.ent 0 (nat_lit 4) (.flat ZIh.ety)])],draws:=[(9,[0,0,3,7,15,0,0,96,224,480,31,2047],.op 0 (.op 1 (.op 2 (.op 3 (.op 4 (.op 5 (.op 6 (.op 7 (.op 8 (.op 9 (.op 10 (.op 11 (.done)))))))))))))]} (fn:=Tryz.f72) Tryz.func72 (by kernel_rfl) (by kernel_rfl) ?_
 rintro ⟨n0,links0,live0,node0,forward0,⟨⟩⟩ K ⟨r,h,hK⟩
 change ZGK n0 links0 live0 node0 forward0=some r at h
 unfold ZGK at h
 conv=>whnf
 refine Yk h (fun hp0 h=>?_)
 conv=>whnf
 refine Yk h (fun hp1 h=>?_)
 conv=>whnf
 refine Yk h (fun hp2 h=>?_)
 conv=>whnf
 refine Yk h (fun hp3 h=>?_)
 conv=>whnf
 refine vAt h (fun x0 he4a he4b he4x h=>?_)
 conv=>whnf
 refine ⟨by kernel_rfl,?_⟩
 conv=>whnf
 refine ⟨by decide,?_⟩
 conv=>whnf
 refine ⟨he4a,he4b,Zh he4x ?_⟩
 conv=>whnf
 refine YH h ?_
 rintro I5 μ5 ⟨changed0,l0,⟨⟩⟩ zs5 h hI5 hR5
 change ZGt links0 live0 forward0 changed0 l0=some zs5 at h
 unfold ZGt at h
 conv=>whnf
 refine Qn h (fun h=>?_) (fun h=>?_)
 conv=>whnf
 refine YH h ?_
 rintro I6 μ6 ⟨changed1,k0,l1,⟨⟩⟩ zs6 h hI6 hR6
 change ZGp links0 live0 forward0 changed1 k0 l1=some zs6 at h
 unfold ZGp at h
 conv=>whnf
 refine ZG h (fun h=>?_) (fun h=>?_)
 conv=>whnf
 refine ⟨by kernel_rfl,?_⟩
 conv=>whnf
 refine vAt h (fun x1 he7a he7b he7x h=>?_)
 conv=>whnf
 refine ⟨he7a,he7b,Zh he7x ?_⟩
 conv=>whnf
 refine ⟨trivial,?_⟩
 conv=>whnf
 refine Yc ?_
 refine Qn h (fun h=>?_) (fun h=>?_)
 conv=>whnf
 refine vAt h (fun x2 he8a he8b he8x h=>?_)
 conv=>whnf
 refine Qn h (fun h=>?_) (fun h=>?_)
 conv=>whnf
 refine vAt h (fun x3 he9a he9b he9x h=>?_)
 conv=>whnf
 refine ⟨by kernel_rfl,?_⟩
 conv=>whnf
 refine ⟨he9a,he9b,Zh he9x ?_⟩
 conv=>whnf
 refine Qn h (fun h=>?_) (fun h=>?_)
 conv=>whnf
 refine vAt h (fun x4 he10a he10b he10x h=>?_)
 conv=>whnf
 refine ⟨by kernel_rfl,?_⟩
 conv=>whnf
 refine ⟨he10a,he10b,Zh he10x ?_⟩
 conv=>whnf
 refine Yc ?_
 refine Qn h (fun h=>?_) (fun h=>?_)
 conv=>whnf
 cases h
 exact ⟨⟨rfl,rfl⟩,hI6 _ rfl⟩
 conv=>whnf
 refine ⟨he10a,he10b,Zh he10x ?_⟩
 conv=>whnf
 refine ⟨by kernel_rfl,?_⟩
 conv=>whnf
 refine ⟨by decide,?_⟩
 conv=>whnf
 refine ⟨he10a,he10b,Zh he10x ?_⟩
 conv=>whnf
 cases h
 exact ⟨⟨rfl,rfl⟩,hI6 _ rfl⟩
 conv=>whnf
 cases h
 exact ⟨⟨rfl,rfl⟩,hI6 _ rfl⟩
 conv=>whnf
 cases h
 exact ⟨⟨rfl,rfl⟩,hI6 _ rfl⟩
 conv=>whnf
 refine vAt h (fun x2 he11a he11b he11x h=>?_)
 conv=>whnf
 refine Qn h (fun h=>?_) (fun h=>?_)
 conv=>whnf
 refine vAt h (fun x3 he12a he12b he12x h=>?_)
 conv=>whnf
 refine ⟨by kernel_rfl,?_⟩
 conv=>whnf
 refine ⟨he12a,he12b,Zh he12x ?_⟩
 conv=>whnf
 refine Qn h (fun h=>?_) (fun h=>?_)
 conv=>whnf
 refine vAt h (fun x4 he13a he13b he13x h=>?_)
 conv=>whnf
 refine ⟨by kernel_rfl,?_⟩
 conv=>whnf
 refine ⟨he13a,he13b,Zh he13x ?_⟩
 conv=>whnf
 refine Yc ?_
 refine Qn h (fun h=>?_) (fun h=>?_)
 conv=>whnf
 cases h
 exact ⟨⟨rfl,rfl⟩,hI6 _ rfl⟩
 conv=>whnf
 refine ⟨he13a,he13b,Zh he13x ?_⟩
 conv=>whnf
 refine ⟨by kernel_rfl,?_⟩
 conv=>whnf
 refine ⟨by decide,?_⟩
 conv=>whnf
 refine ⟨he13a,he13b,Zh he13x ?_⟩
 conv=>whnf
 cases h
 exact ⟨⟨rfl,rfl⟩,hI6 _ rfl⟩
 conv=>whnf
 cases h
 exact ⟨⟨rfl,rfl⟩,hI6 _ rfl⟩
 conv=>whnf
 cases h
 exact ⟨⟨rfl,rfl⟩,hI6 _ rfl⟩
 conv=>whnf
 cases h
 obtain rfl:=hR6 _ rfl
 exact ⟨⟨rfl,rfl⟩,hI5 _ rfl⟩
 conv=>whnf
 cases h
 obtain rfl:=hR5 _ rfl
 exact hK
theorem w51 (q1:Sq 77 c37) (q0:Sq 96 c13) (q2:Sq 44 c2):Sq 128 c51:=by
 refine Zm ZL (Zg q1 (Zg q0 (Zg q2 Zu))) mixed {loops:=[(0,[.reg 5 (.own (.ol 270 (.flat (Zma)))),.reg 7 (.dat Iq),.cell 0 0 (.sl (.int .u8)),.cell 0 1 Iq,.cell 0 2 Iq]),(2,[.reg 5 (.own (.ol 270 (.flat (Zma)))),.reg 9 (.dat Iq),.cell 0 0 (.sl (.int .u8)),.cell 0 1 Iq,.cell 0 2 Iq])]} (fn:=Tryz.f128) Tryz.func128 (by kernel_rfl) (by kernel_rfl) ?_
 rintro ⟨a0,a1,⟨⟩⟩ K ⟨r,h,hK⟩
 change ZGj a0 a1=some r at h
 unfold ZGj at h
 conv=>whnf
 refine Ze h (fun IsBlock0 hb0 h=>?_)
 conv=>whnf
 refine Yc ?_
 refine Qn h (fun h=>?_) (fun h=>?_)
 conv=>whnf
 refine Ze h (fun l05Places0 hb1 h=>?_)
 conv=>whnf
 refine YH h ?_
 rintro I2 μ2 ⟨v0,v1,c0,c1,c2,⟨⟩⟩ zs2 h hI2 hR2
 change ZGA l05Places0 v0 v1 c0 c1 c2=some zs2 at h
 unfold ZGA at h
 conv=>whnf
 refine ZG h (fun h=>?_) (fun h=>?_)
 conv=>whnf
 refine vAt h (fun x0 he3a he3b he3x h=>?_)
 conv=>whnf
 refine ⟨by kernel_rfl,?_⟩
 conv=>whnf
 refine ⟨he3a,he3b,Zh he3x ?_⟩
 conv=>whnf
 refine ZG h (fun h=>?_) (fun h=>?_)
 conv=>whnf
 refine ⟨he3a,he3b,Zh he3x ?_⟩
 conv=>whnf
 refine ⟨by kernel_rfl,?_⟩
 conv=>whnf
 refine ⟨he3a,he3b,Zh he3x ?_⟩
 conv=>whnf
 refine YH h ?_
 rintro I4 μ4 ⟨v2,v3,c3,c4,c5,⟨⟩⟩ zs4 h hI4 hR4
 change ZGy v1 x0 v2 v3 c3 c4 c5=some zs4 at h
 unfold ZGy at h
 conv=>whnf
 refine ZG h (fun h=>?_) (fun h=>?_)
 conv=>whnf
 refine Qn h (fun h=>?_) (fun h=>?_)
 conv=>whnf
 refine Ze h (fun l01Next0 hb5 h=>?_)
 conv=>whnf
 refine ZcV h (fun h=>?_) (fun h=>?_)
 conv=>whnf
 refine Ze h (fun l01Next1 hb6 h=>?_)
 conv=>whnf
 refine Ze h (fun l01Next2 hb7 h=>?_)
 conv=>whnf
 refine Ze h (fun l01Next3 hb8 h=>?_)
 conv=>whnf
 refine Ze h (fun l01Next4 hb9 h=>?_)
 conv=>whnf
 refine Yk h (fun hp10 h=>?_)
 conv=>whnf
 cases h
 exact ⟨⟨rfl,rfl⟩,hI4 _ rfl⟩
 conv=>whnf
 refine Ze h (fun l01Next1 hb11 h=>?_)
 conv=>whnf
 refine ZG h (fun h=>?_) (fun h=>?_)
 conv=>whnf
 refine Ze h (fun l01Next2 hb12 h=>?_)
 conv=>whnf
 refine Ze h (fun l01Next3 hb13 h=>?_)
 conv=>whnf
 refine Ze h (fun l01Next4 hb14 h=>?_)
 conv=>whnf
 refine Ze h (fun l01Next5 hb15 h=>?_)
 conv=>whnf
 refine Yk h (fun hp16 h=>?_)
 conv=>whnf
 cases h
 exact ⟨⟨rfl,rfl⟩,hI4 _ rfl⟩
 conv=>whnf
 cases h
 exact ⟨⟨rfl,rfl⟩,hI4 _ rfl⟩
 conv=>whnf
 refine Ze h (fun l01Next0 hb17 h=>?_)
 conv=>whnf
 refine ZG h (fun h=>?_) (fun h=>?_)
 conv=>whnf
 refine Ze h (fun l01Next1 hb18 h=>?_)
 conv=>whnf
 refine Ze h (fun l01Next2 hb19 h=>?_)
 conv=>whnf
 refine Ze h (fun l01Next3 hb20 h=>?_)
 conv=>whnf
 refine Ze h (fun l01Next4 hb21 h=>?_)
 conv=>whnf
 refine Yk h (fun hp22 h=>?_)
 conv=>whnf
 cases h
 exact ⟨⟨rfl,rfl⟩,hI4 _ rfl⟩
 conv=>whnf
 cases h
 exact ⟨⟨rfl,rfl⟩,hI4 _ rfl⟩
 conv=>whnf
 cases h
 obtain rfl:=hR4 _ rfl
 exact ⟨⟨rfl,rfl⟩,hI2 _ rfl⟩
 conv=>whnf
 refine YH h ?_
 rintro I23 μ23 ⟨v2,v3,c3,c4,c5,⟨⟩⟩ zs23 h hI23 hR23
 change ZGz v1 v2 v3 c3 c4 c5=some zs23 at h
 unfold ZGz at h
 conv=>whnf
 refine ZG h (fun h=>?_) (fun h=>?_)
 conv=>whnf
 refine Ze h (fun l01Next0 hb24 h=>?_)
 conv=>whnf
 refine ZG h (fun h=>?_) (fun h=>?_)
 conv=>whnf
 refine Ze h (fun l01Next1 hb25 h=>?_)
 conv=>whnf
 refine Ze h (fun l01Next2 hb26 h=>?_)
 conv=>whnf
 refine Ze h (fun l01Next3 hb27 h=>?_)
 conv=>whnf
 refine Ze h (fun l01Next4 hb28 h=>?_)
 conv=>whnf
 refine Yk h (fun hp29 h=>?_)
 conv=>whnf
 cases h
 exact ⟨⟨rfl,rfl⟩,hI23 _ rfl⟩
 conv=>whnf
 cases h
 exact ⟨⟨rfl,rfl⟩,hI23 _ rfl⟩
 conv=>whnf
 cases h
 obtain rfl:=hR23 _ rfl
 exact ⟨⟨rfl,rfl⟩,hI2 _ rfl⟩
 conv=>whnf
 refine ZG h (fun h=>?_) (fun h=>?_)
 conv=>whnf
 refine Ze h (fun l01Next0 hb30 h=>?_)
 conv=>whnf
 refine Ze h (fun l01Next1 hb31 h=>?_)
 conv=>whnf
 refine ZG h (fun h=>?_) (fun h=>?_)
 conv=>whnf
 refine vAt h (fun x0 he32a he32b he32x h=>?_)
 conv=>whnf
 refine ⟨by kernel_rfl,?_⟩
 conv=>whnf
 refine ⟨he32a,he32b,Zh he32x ?_⟩
 conv=>whnf
 refine vAt h (fun x1 he33a he33b he33x h=>?_)
 conv=>whnf
 refine ⟨by kernel_rfl,?_⟩
 conv=>whnf
 refine ⟨by decide,?_⟩
 conv=>whnf
 refine ⟨he33a,he33b,Zh he33x ?_⟩
 conv=>whnf
 cases h
 obtain rfl:=hR2 _ rfl
 exact hK
 conv=>whnf
 refine ZG h (fun h=>?_) (fun h=>?_)
 conv=>whnf
 refine vAt h (fun x0 he34a he34b he34x h=>?_)
 conv=>whnf
 refine ⟨by kernel_rfl,?_⟩
 conv=>whnf
 refine ⟨he34a,he34b,Zh he34x ?_⟩
 conv=>whnf
 refine ⟨he34a,he34b,Zh he34x ?_⟩
 conv=>whnf
 refine ⟨by kernel_rfl,?_⟩
 conv=>whnf
 refine ⟨by decide,?_⟩
 conv=>whnf
 refine ⟨he34a,he34b,Zh he34x ?_⟩
 conv=>whnf
 cases h
 obtain rfl:=hR2 _ rfl
 exact hK
 conv=>whnf
 refine ZG h (fun h=>?_) (fun h=>?_)
 conv=>whnf
 refine vAt h (fun x0 he35a he35b he35x h=>?_)
 conv=>whnf
 refine ⟨by kernel_rfl,?_⟩
 conv=>whnf
 refine ⟨by decide,?_⟩
 conv=>whnf
 refine ⟨he35a,he35b,Zh he35x ?_⟩
 conv=>whnf
 cases h
 obtain rfl:=hR2 _ rfl
 exact hK
 conv=>whnf
 refine ZG h (fun h=>?_) (fun h=>?_)
 conv=>whnf
 refine vAt h (fun x0 he36a he36b he36x h=>?_)
 conv=>whnf
 refine ⟨by kernel_rfl,?_⟩
 conv=>whnf
 refine ⟨by decide,?_⟩
 conv=>whnf
 refine ⟨he36a,he36b,Zh he36x ?_⟩
 conv=>whnf
 cases h
 obtain rfl:=hR2 _ rfl
 exact hK
 conv=>whnf
 cases h
 obtain rfl:=hR2 _ rfl
 exact hK
 conv=>whnf
 cases h
 obtain rfl:=hR2 _ rfl
 exact hK
 conv=>whnf
 cases h
 exact hK
theorem w53 (q0:Sq 71 c46) (q1:Sq 44 c2):Sq 61 c53:=by
 refine Zm ZL (Zg q0 (Zg q1 Zu)) mixed {loops:=[(0,[.reg 5 (.own (.ol 2 (.flat Iq))),.reg 6 (.dat Iq),.cell 0 0 (.sl (.int .u8)),.cell 0 1 Iq,.cell 0 2 Iq])]} (fn:=Tryz.f61) Tryz.func61 (by kernel_rfl) (by kernel_rfl) ?_
 rintro ⟨s0,b0,⟨⟩⟩ K ⟨r,h,hK⟩
 change ZG6 s0 b0=some r at h
 unfold ZG6 at h
 conv=>whnf
 refine YH h ?_
 rintro I0 μ0 ⟨out0,node0,c0,c1,c2,⟨⟩⟩ zs0 h hI0 hR0
 change ZGL b0 out0 node0 c0 c1 c2=some zs0 at h
 unfold ZGL at h
 conv=>whnf
 refine Ze h (fun l09Count0 hb1 h=>?_)
 conv=>whnf
 refine ZG h (fun h=>?_) (fun h=>?_)
 conv=>whnf
 refine Ze h (fun l01Next0 hb2 h=>?_)
 conv=>whnf
 refine ZG h (fun h=>?_) (fun h=>?_)
 conv=>whnf
 refine Yk h (fun hp3 h=>?_)
 conv=>whnf
 cases h
 exact ⟨⟨rfl,rfl⟩,hI0 _ rfl⟩
 conv=>whnf
 cases h
 exact ⟨⟨rfl,rfl⟩,hI0 _ rfl⟩
 conv=>whnf
 refine Ze h (fun l01Next0 hb4 h=>?_)
 conv=>whnf
 refine ZG h (fun h=>?_) (fun h=>?_)
 conv=>whnf
 refine ⟨_,hb1,?_⟩
 conv=>whnf
 refine Ze h (fun l01Next1 hb5 h=>?_)
 conv=>whnf
 refine Yk h (fun hp6 h=>?_)
 conv=>whnf
 cases h
 obtain rfl:=hR0 _ rfl
 exact hK
 conv=>whnf
 cases h
 obtain rfl:=hR0 _ rfl
 exact hK
end Go.Proofs.YtnnbgbgapogckaaGreatDoor
