/-
  The functions keep their contracts, if what they call does. Printed by program.
-/
import Derived.Test.YtnnbgbgapogckaaGreatDoorM
import Derived.KernelRfl
namespace Go.Proofs.YtnnbgbgapogckaaGreatDoor
open Go Go.Sx
set_option maxRecDepth 100000
set_option maxHeartbeats 6400000
set_option linter.unusedVariables false
set_option linter.unusedSimpArgs false
theorem ZFU (q0:Sq 55 ZA4):Sq 201 c116:=by
 refine Zm ZL (Zg q0 Zu) mixed {loops:=[(0,[.reg 6 (.own (.ol 2 (.flat Iq))),.reg 19 (.dat Iq)])]} (fn:=Tryz.f201) Tryz.func201 (by kernel_rfl) (by kernel_rfl) ?_
 rintro ⟨b0,net0,⟨⟩⟩ K ⟨r,h,hK⟩
 change ZGr b0 net0=some r at h
 unfold ZGr at h
 conv=>whnf
 refine Ze h (fun nodeDelays0 hb0 h=>?_)
 conv=>whnf
 refine vAt h (fun x0 he1a he1b he1x h=>?_)
 conv=>whnf
 refine YH h ?_
 rintro I2 μ2 ⟨out0,v0,⟨⟩⟩ zs2 h hI2 hR2
 change ZGs nodeDelays0 x0 out0 v0=some zs2 at h
 unfold ZGs at h
 conv=>whnf
 refine ZG h (fun h=>?_) (fun h=>?_)
 conv=>whnf
 refine vAt h (fun x1 he3a he3b he3x h=>?_)
 conv=>whnf
 refine vAt h (fun x2 he4a he4b he4x h=>?_)
 conv=>whnf
 refine ⟨by kernel_rfl,?_⟩
 conv=>whnf
 refine ⟨he4a,he4b,Zh he4x ?_⟩
 conv=>whnf
 refine Yk h (fun hp5 h=>?_)
 conv=>whnf
 cases h
 exact ⟨⟨rfl,rfl⟩,hI2 _ rfl⟩
 conv=>whnf
 cases h
 obtain rfl:=hR2 _ rfl
 exact hK
theorem ZFR:Sq 193 ZA2:=by
 refine Zm ZL Zu mixed {draws:=[(3,[0,1,0,4,0,16,60,124,252,511,1023,2047,0,4096,16383,32767,65535,131071],.op 0 (.op 1 (.op 2 (.op 3 (.op 4 (.op 5 (.op 6 (.op 7 (.op 8 (.op 9 (.op 10 (.op 11 (.op 12 (.op 13 (.op 14 (.op 15 (.op 16 (.op 17 (.done)))))))))))))))))))]} (fn:=Tryz.f193) Tryz.func193 (by kernel_rfl) (by kernel_rfl) ?_
 rintro ⟨d0,l0,p0,⟨⟩⟩ K ⟨r,h,hK⟩
 change ZEb d0 l0 p0=some r at h
 unfold ZEb at h
 conv=>whnf
 refine ZG h (fun h=>?_) (fun h=>?_)
 conv=>whnf
 cases h
 exact hK
 conv=>whnf
 refine ⟨by kernel_rfl,?_⟩
 conv=>whnf
 refine vAt h (fun x0 he0a he0b he0x h=>?_)
 conv=>whnf
 refine vAt h (fun x1 he1a he1b he1x h=>?_)
 conv=>whnf
 refine vAt h (fun x2 he2a he2b he2x h=>?_)
 conv=>whnf
 refine ⟨trivial,?_⟩
 conv=>whnf
 cases h
 exact hK
theorem ZFJ:Sq 83 c105:=by
 refine Zm ZL Zu mixed {loops:=[(0,[.reg 3 (.own (.ol 147 (.flat (ZjZ)))),.reg 13 (.dat Iq)]),(2,[.reg 3 (.own (.ol 147 (.flat (ZjZ)))),.reg 21 (.dat Iq)]),(4,[.reg 3 (.own (.ol 147 (.flat (ZjZ)))),.reg 44 (.dat Iq)])]} (fn:=Tryz.f83) Tryz.func83 (by kernel_rfl) (by kernel_rfl) ?_
 rintro ⟨d0,⟨⟩⟩ K ⟨r,h,hK⟩
 change Zpt d0=some r at h
 unfold Zpt at h
 conv=>whnf
 refine YH h ?_
 rintro I0 μ0 ⟨list0,v0,⟨⟩⟩ zs0 h hI0 hR0
 change Zrs d0 list0 v0=some zs0 at h
 unfold Zrs at h
 conv=>whnf
 refine ZG h (fun h=>?_) (fun h=>?_)
 conv=>whnf
 refine vAt h (fun x0 he1a he1b he1x h=>?_)
 conv=>whnf
 refine YH h ?_
 rintro I2 μ2 ⟨list1,v1,⟨⟩⟩ zs2 h hI2 hR2
 change Zrq v0 x0 list1 v1=some zs2 at h
 unfold Zrq at h
 conv=>whnf
 refine ZG h (fun h=>?_) (fun h=>?_)
 conv=>whnf
 refine vAt h (fun x1 he3a he3b he3x h=>?_)
 conv=>whnf
 refine Yk h (fun hp4 h=>?_)
 conv=>whnf
 cases h
 exact ⟨⟨rfl,rfl⟩,hI2 _ rfl⟩
 conv=>whnf
 cases h
 obtain rfl:=hR2 _ rfl
 exact ⟨⟨rfl,rfl⟩,hI0 _ rfl⟩
 conv=>whnf
 refine YH h ?_
 rintro I5 μ5 ⟨list1,v1,⟨⟩⟩ zs5 h hI5 hR5
 change Zrr d0 list1 v1=some zs5 at h
 unfold Zrr at h
 conv=>whnf
 refine ZG h (fun h=>?_) (fun h=>?_)
 conv=>whnf
 refine vAt h (fun x0 he6a he6b he6x h=>?_)
 conv=>whnf
 refine Yk h (fun hp7 h=>?_)
 conv=>whnf
 cases h
 exact ⟨⟨rfl,rfl⟩,hI5 _ rfl⟩
 conv=>whnf
 cases h
 obtain rfl:=hR5 _ rfl
 obtain rfl:=hR0 _ rfl
 exact hK
theorem ZFK (q0:Sq 159 c55):Sq 160 ZAY:=by
 refine Zm ZL (Zg q0 Zu) mixed {loops:=[(0,[.reg 8 (.dat Iq)])]} (fn:=Tryz.f160) Tryz.func160 (by kernel_rfl) (by kernel_rfl) ?_
 rintro ⟨w0,⟨⟩⟩ K ⟨r,h,hK⟩
 change ZsE w0=some r at h
 unfold ZsE at h
 conv=>whnf
 refine YH h ?_
 rintro I0 μ0 ⟨v0,⟨⟩⟩ zs0 h hI0 hR0
 change ZrU w0 v0=some zs0 at h
 unfold ZrU at h
 conv=>whnf
 refine ZG h (fun h=>?_) (fun h=>?_)
 conv=>whnf
 refine vAt h (fun x0 he1a he1b he1x h=>?_)
 conv=>whnf
 refine ZG h (fun h=>?_) (fun h=>?_)
 conv=>whnf
 refine Zj4 ?_
 refine ZG h (fun h=>?_) (fun h=>?_)
 conv=>whnf
 refine vAt h (fun x1 he2a he2b he2x h=>?_)
 conv=>whnf
 refine Zj4 ?_
 refine ZG h (fun h=>?_) (fun h=>?_)
 conv=>whnf
 refine ZG h (fun h=>?_) (fun h=>?_)
 conv=>whnf
 refine Ze h (fun within0 hb3 h=>?_)
 conv=>whnf
 refine Yc ?_
 refine Qn h (fun h=>?_) (fun h=>?_)
 conv=>whnf
 cases h
 exact ⟨⟨rfl,rfl⟩,hI0 _ rfl⟩
 conv=>whnf
 cases h
 obtain rfl:=hR0 _ rfl
 exact hK
 conv=>whnf
 cases h
 exact ⟨⟨rfl,rfl⟩,hI0 _ rfl⟩
 conv=>whnf
 cases h
 obtain rfl:=hR0 _ rfl
 exact hK
 conv=>whnf
 cases h
 obtain rfl:=hR0 _ rfl
 exact hK
 conv=>whnf
 refine ZG h (fun h=>?_) (fun h=>?_)
 conv=>whnf
 refine Ze h (fun within0 hb4 h=>?_)
 conv=>whnf
 refine Yc ?_
 refine Qn h (fun h=>?_) (fun h=>?_)
 conv=>whnf
 cases h
 exact ⟨⟨rfl,rfl⟩,hI0 _ rfl⟩
 conv=>whnf
 cases h
 obtain rfl:=hR0 _ rfl
 exact hK
 conv=>whnf
 cases h
 exact ⟨⟨rfl,rfl⟩,hI0 _ rfl⟩
 conv=>whnf
 cases h
 obtain rfl:=hR0 _ rfl
 exact hK
theorem w72 (q1:Sq 307 c70) (q0:Sq 308 c71):Sq 306 c72:=by
 refine Zm ZL (Zg q1 (Zg q0 Zu)) mixed {} (fn:=Tryz.f306) Tryz.func306 (by kernel_rfl) (by kernel_rfl) ?_
 rintro ⟨t0,a0,⟨⟩⟩ K ⟨r,h,hK⟩
 change ZqM t0 a0=some r at h
 unfold ZqM at h
 conv=>whnf
 refine Ze h (fun IsTable0 hb0 h=>?_)
 conv=>whnf
 refine Zj4 ?_
 refine Qn h (fun h=>?_) (fun h=>?_)
 conv=>whnf
 refine Qn h (fun h=>?_) (fun h=>?_)
 conv=>whnf
 refine Ze h (fun int64_0 hb1 h=>?_)
 conv=>whnf
 cases h
 exact hK
 conv=>whnf
 cases h
 exact hK
 conv=>whnf
 cases h
 exact hK
theorem w69 (q0:Sq 158 c63) (q3:Sq 159 c55) (q2:Sq 109 c67) (q1:Sq 133 c68):Sq 324 c69:=by
 refine Zm ZL (Zg q0 (Zg q3 (Zg q2 (Zg q1 Zu)))) mixed {} (fn:=Tryz.f324) Tryz.func324 (by kernel_rfl) (by kernel_rfl) ?_
 rintro ⟨list0,⟨⟩⟩ K ⟨r,h,hK⟩
 change Zue list0=some r at h
 unfold Zue at h
 conv=>whnf
 refine Ze h (fun int64_0 hb0 h=>?_)
 conv=>whnf
 refine Ze h (fun within0 hb1 h=>?_)
 conv=>whnf
 refine Qn h (fun h=>?_) (fun h=>?_)
 conv=>whnf
 refine Ze h (fun areWithin0 hb2 h=>?_)
 conv=>whnf
 refine Qn h (fun h=>?_) (fun h=>?_)
 conv=>whnf
 refine Ze h (fun isIncreasing0 hb3 h=>?_)
 conv=>whnf
 cases h
 exact hK
 conv=>whnf
 cases h
 exact hK
 conv=>whnf
 cases h
 exact hK
theorem ZFV (q3:Sq 83 c105) (q1:Sq 200 ZAZ) (q4:Sq 158 c63) (q2:Sq 113 ZA3) (q0:Sq 201 c116):Sq 129 c117:=by
 refine Zm VX (Zg q3 (Zg q1 (Zg q4 (Zg q2 (Zg q0 Zu))))) mixed {loops:=[(0,[.reg 4 (.dat Iq),.reg 25 (.dat Iq),.cello 1020 6 (.ol 211 (.flat (Zl8)))]),(2,[.reg 60 (.dat Iq),.ent 4 (nat_lit 2) (.flat Znz.ety),.ent 5 (nat_lit 51) (Dp.ol (2:Go.TypeId) (Dp.flat (Ty.int IntKind.i64)))]),(4,[.reg 88 (.dat Iq),.cello 1020 7 (.ol 2 (.flat Iq)),.cello 1020 8 (.ol 51 (.ol 2 (.flat Iq))),.cello 1020 6 (.ol (nat_lit 211) (.flat Zl8)),.ent 5 (nat_lit 51) (Dp.ol (2:Go.TypeId) (Dp.flat (Ty.int IntKind.i64)))]),(6,[.reg 122 (.dat Iq),.cello 1020 6 (.ol (nat_lit 211) (.flat Zl8))]),(8,[.reg 127 (.dat Iq),.cello 1020 6 (.ol (nat_lit 211) (.flat Zl8))])],draws:=[(1,[0,0,2,6,15,31,63],.op 0 (.op 1 (.op 2 (.alt 3 (.op 4 (.alt 5 (.op 6 (.done)) (.done))) (.done))))),(6,[0,0,2,6,14,0,0,0,224,510,1023,2047,4095],.op 0 (.op 1 (.op 2 (.op 3 (.op 4 (.op 5 (.op 6 (.op 7 (.alt 8 (.alt 9 (.op 10 (.op 11 (.alt 12 (.done) (.done)))) (.done)) (.done)))))))))),(16,[0,0,2,0,0,16,56,120,0,256,1016,2047,4095],.op 0 (.op 1 (.op 3 (.op 4 (.op 5 (.op 6 (.op 7 (.op 8 (.ld 2 (.alt 9 (.alt 10 (.op 11 (.alt 12 (.done) (.done))) (.done)) (.done))))))))))),(21,[0,0,2,6,14,0,0,96,224,480,992,2046,4095,8191,16383],.op 0 (.op 1 (.op 2 (.op 3 (.op 4 (.op 5 (.op 6 (.alt 7 (.op 8 (.op 9 (.alt 10 (.alt 11 (.op 12 (.op 13 (.alt 14 (.done) (.done)))) (.done)) (.done)))) (.done))))))))),(22,[0,0,2,6,14,0,0,96,224,510,1023,2047,4095],.op 0 (.op 1 (.op 2 (.op 3 (.op 4 (.op 5 (.op 6 (.alt 7 (.alt 8 (.alt 9 (.op 10 (.op 11 (.alt 12 (.done) (.done)))) (.done)) (.done)) (.done))))))))),(29,[0,0,2,6,14,0,0,96,224,480,0,2016,0,4096,0,28672,0,131040,262112,524286,1048575,2097151,4194303],.op 0 (.op 1 (.op 2 (.op 3 (.op 4 (.op 5 (.op 6 (.op 7 (.op 8 (.op 9 (.op 10 (.op 11 (.op 12 (.op 13 (.op 14 (.op 15 (.op 16 (.op 17 (.alt 18 (.alt 19 (.op 20 (.op 21 (.alt 22 (.done) (.done)))) (.done)) (.done))))))))))))))))))))]} (fn:=Tryz.f129) Tryz.func129 (by kernel_rfl) (by kernel_rfl) ?_
 rintro ⟨a0,⟨⟩⟩ K ⟨r,h,hK⟩
 change ZHw a0=some r at h
 unfold ZHw at h
 conv=>whnf
 refine ⟨by kernel_rfl,?_⟩
 conv=>whnf
 refine Ze h (fun places0 hb0 h=>?_)
 conv=>whnf
 refine ⟨trivial,?_⟩
 conv=>whnf
 refine YH h ?_
 rintro I1 μ1 ⟨v0,v1,c0,⟨⟩⟩ zs1 h hI1 hR1
 change ZHi a0 places0 v0 v1 c0=some zs1 at h
 unfold ZHi at h
 conv=>whnf
 refine ZG h (fun h=>?_) (fun h=>?_)
 conv=>whnf
 refine vAt h (fun x0 he2a he2b he2x h=>?_)
 conv=>whnf
 refine ⟨by kernel_rfl,?_⟩
 conv=>whnf
 refine Ze h (fun cellLinks0 hb3 h=>?_)
 conv=>whnf
 refine Yk h (fun hp4 h=>?_)
 conv=>whnf
 refine ⟨trivial,?_⟩
 conv=>whnf
 refine Ze h (fun int64_0 hb5 h=>?_)
 conv=>whnf
 cases h
 exact ⟨⟨rfl,rfl⟩,hI1 _ rfl⟩
 conv=>whnf
 refine Yk h (fun hp6 h=>?_)
 conv=>whnf
 refine Yk h (fun hp7 h=>?_)
 conv=>whnf
 refine Yk h (fun hp8 h=>?_)
 conv=>whnf
 refine Yk h (fun hp9 h=>?_)
 conv=>whnf
 refine ⟨hp6,?_⟩
 conv=>whnf
 refine ⟨hp7,?_⟩
 conv=>whnf
 refine ⟨hp8,?_⟩
 conv=>whnf
 refine Yk h (fun hp10 h=>?_)
 conv=>whnf
 intro fp11
 conv=>whnf
 refine YH h ?_
 rintro I12 μ12 ⟨v2,l0,l1,⟨⟩⟩ zs12 h hI12 hR12
 change ZGU a0 places0 c0 v2 l0 l1=some zs12 at h
 unfold ZGU at h
 conv=>whnf
 intro fp13
 conv=>whnf
 refine ZG h (fun h=>?_) (fun h=>?_)
 conv=>whnf
 refine vAt h (fun x0 he14a he14b he14x h=>?_)
 conv=>whnf
 refine ⟨by kernel_rfl,?_⟩
 conv=>whnf
 refine ⟨he14a,he14b,Zh he14x ?_⟩
 conv=>whnf
 refine Qn h (fun h=>?_) (fun h=>?_)
 conv=>whnf
 refine vAt h (fun x1 he15a he15b he15x h=>?_)
 conv=>whnf
 refine ⟨by kernel_rfl,?_⟩
 conv=>whnf
 refine ⟨by decide,?_⟩
 conv=>whnf
 refine ⟨he15a,he15b,Zh he15x ?_⟩
 conv=>whnf
 cases h
 exact ⟨⟨rfl,rfl⟩,hI12 _ rfl⟩
 conv=>whnf
 refine ⟨by kernel_rfl,?_⟩
 conv=>whnf
 refine vAt h (fun x1 he16a he16b he16x h=>?_)
 conv=>whnf
 refine ⟨he16a,he16b,Zh he16x ?_⟩
 conv=>whnf
 intro fp17
 conv=>whnf
 refine ⟨by kernel_rfl,?_⟩
 conv=>whnf
 refine ⟨by kernel_rfl,?_⟩
 conv=>whnf
 refine Yk h (fun hp18 h=>?_)
 conv=>whnf
 refine ⟨he16a,he16b,Zh he16x ?_⟩
 conv=>whnf
 refine ⟨by kernel_rfl,?_⟩
 conv=>whnf
 refine .inl ⟨rfl,?_⟩
 conv=>whnf
 refine ⟨trivial,?_⟩
 conv=>whnf
 cases h
 exact ⟨⟨rfl,rfl⟩,hI12 _ rfl⟩
 conv=>whnf
 refine YH h ?_
 rintro I19 μ19 ⟨v3,c1,c2,c3,l2,⟨⟩⟩ zs19 h hI19 hR19
 change ZGT a0 places0 l0 v3 c1 c2 c3 l2=some zs19 at h
 unfold ZGT at h
 conv=>whnf
 intro fp20
 conv=>whnf
 intro fp21
 conv=>whnf
 refine ZG h (fun h=>?_) (fun h=>?_)
 conv=>whnf
 refine ⟨by kernel_rfl,?_⟩
 conv=>whnf
 refine Ze h (fun nodeLoads0 hb22 h=>?_)
 conv=>whnf
 refine vAt h (fun x0 he23a he23b he23x h=>?_)
 conv=>whnf
 refine ⟨by kernel_rfl,?_⟩
 conv=>whnf
 refine ⟨he23a,he23b,Zh he23x ?_⟩
 conv=>whnf
 refine Yk h (fun hp24 h=>?_)
 conv=>whnf
 refine ⟨trivial,?_⟩
 conv=>whnf
 refine ⟨by kernel_rfl,?_⟩
 conv=>whnf
 refine Ze h (fun exactDelays0 hb25 h=>?_)
 conv=>whnf
 intro fp26
 conv=>whnf
 refine Yk h (fun hp27 h=>?_)
 conv=>whnf
 intro fp28
 conv=>whnf
 refine ⟨trivial,?_⟩
 conv=>whnf
 refine vAt h (fun x1 he29a he29b he29x h=>?_)
 conv=>whnf
 refine ⟨he29a,he29b,Zh he29x ?_⟩
 conv=>whnf
 intro fp30
 conv=>whnf
 refine YH h ?_
 rintro I31 μ31 ⟨v4,c4,⟨⟩⟩ zs31 h hI31 hR31
 change ZGS l0 v3 c1 c2 l2 x0 exactDelays0 x1 v4 c4=some zs31 at h
 unfold ZGS at h
 conv=>whnf
 refine ZG h (fun h=>?_) (fun h=>?_)
 conv=>whnf
 refine vAt h (fun x2 he32a he32b he32x h=>?_)
 conv=>whnf
 refine ⟨by kernel_rfl,?_⟩
 conv=>whnf
 refine ⟨he32a,he32b,Zh he32x ?_⟩
 conv=>whnf
 refine YH h ?_
 rintro I33 μ33 ⟨v5,c5,⟨⟩⟩ zs33 h hI33 hR33
 change ZGF l0 v3 v4 x2 v5 c5=some zs33 at h
 unfold ZGF at h
 conv=>whnf
 refine ZG h (fun h=>?_) (fun h=>?_)
 conv=>whnf
 refine ⟨by kernel_rfl,?_⟩
 conv=>whnf
 refine vAt h (fun x3 he34a he34b he34x h=>?_)
 conv=>whnf
 refine ⟨by kernel_rfl,?_⟩
 conv=>whnf
 refine ⟨he34a,he34b,Zh he34x ?_⟩
 conv=>whnf
 refine Yk h (fun hp35 h=>?_)
 conv=>whnf
 refine ⟨trivial,?_⟩
 conv=>whnf
 cases h
 exact ⟨⟨rfl,rfl⟩,hI33 _ rfl⟩
 conv=>whnf
 cases h
 obtain rfl:=hR33 _ rfl
 exact ⟨⟨rfl,rfl⟩,hI31 _ rfl⟩
 conv=>whnf
 cases h
 obtain rfl:=hR31 _ rfl
 exact ⟨⟨rfl,rfl⟩,hI19 _ rfl⟩
 conv=>whnf
 cases h
 obtain rfl:=hR19 _ rfl
 obtain rfl:=hR12 _ rfl
 obtain rfl:=hR1 _ rfl
 exact hK
theorem w59 (q0:Sq 249 c58):Sq 230 c59:=by
 refine Zm ZL (Zg q0 Zu) mixed {} (fn:=Tryz.f230) Tryz.func230 (by kernel_rfl) (by kernel_rfl) ?_
 rintro ⟨s0,v0,⟨⟩⟩ K ⟨r,h,hK⟩
 change ZJ s0 v0=some r at h
 unfold ZJ at h
 conv=>whnf
 refine Ze h (fun string0 hb0 h=>?_)
 conv=>whnf
 cases h
 exact hK
theorem w65 (q0:Sq 190 c64):Sq 231 c65:=by
 refine Zm ZL (Zg q0 Zu) mixed {loops:=[(0,[.reg 8 (.dat Iq)])]} (fn:=Tryz.f231) Tryz.func231 (by kernel_rfl) (by kernel_rfl) ?_
 rintro ⟨s0,f0,⟨⟩⟩ K ⟨r,h,hK⟩
 change Zq s0 f0=some r at h
 unfold Zq at h
 conv=>whnf
 refine YH h ?_
 rintro I0 μ0 ⟨v0,⟨⟩⟩ zs0 h hI0 hR0
 change Zr s0 f0 v0=some zs0 at h
 unfold Zr at h
 conv=>whnf
 refine ZG h (fun h=>?_) (fun h=>?_)
 conv=>whnf
 refine vAt h (fun x0 he1a he1b he1x h=>?_)
 conv=>whnf
 refine Ze h (fun c1_0 hb2 h=>?_)
 conv=>whnf
 refine Qn h (fun h=>?_) (fun h=>?_)
 conv=>whnf
 cases h
 obtain rfl:=hR0 _ rfl
 exact hK
 conv=>whnf
 cases h
 exact ⟨⟨rfl,rfl⟩,hI0 _ rfl⟩
 conv=>whnf
 cases h
 obtain rfl:=hR0 _ rfl
 exact hK
theorem ZF8 (q5:Sq 67 c130) (q1:Sq 68 c131) (q2:Sq 69 c42) (q6:Sq 70 c45) (q3:Sq 71 c46) (q4:Sq 72 c47) (q0:Sq 73 ZBb):Sq 23 ZBc:=by
 refine Zm ZL (Zg q5 (Zg q1 (Zg q2 (Zg q6 (Zg q3 (Zg q4 (Zg q0 Zu))))))) mixed {loops:=[(0,[.reg 12 (.dat Iq),.ent 3 (nat_lit 4) (.flat ZIh.ety)]),(2,[.reg 14 (.dat Iq),.ent 3 (nat_lit 4) (.flat ZIh.ety)])],draws:=[(12,[0,1,0,0,0,0,48,112,255,511],.op 0 (.op 2 (.op 3 (.op 4 (.op 5 (.op 6 (.op 7 (.alt 1 (.alt 8 (.op 9 (.done)) (.done)) (.done)))))))))]} (fn:=Tryz.f23) Tryz.func23 (by kernel_rfl) (by kernel_rfl) ?_
 rintro ⟨a0,a1,a2,⟨⟩⟩ K ⟨r,h,hK⟩
 change ZHD a0 a1 a2=some r at h
 unfold ZHD at h
 conv=>whnf
 refine Ze h (fun l09Code0 hb0 h=>?_)
 conv=>whnf
 refine Yc ?_
 refine ZG h (fun h=>?_) (fun h=>?_)
 conv=>whnf
 refine Ze h (fun l32Nodes0 hb1 h=>?_)
 conv=>whnf
 refine Yc ?_
 refine Qn h (fun h=>?_) (fun h=>?_)
 conv=>whnf
 refine Ze h (fun l09Links0 hb2 h=>?_)
 conv=>whnf
 refine Ze h (fun l09Live0 hb3 h=>?_)
 conv=>whnf
 refine Ze h (fun l09Count0 hb4 h=>?_)
 conv=>whnf
 refine Yk h (fun hp5 h=>?_)
 conv=>whnf
 refine Yk h (fun hp6 h=>?_)
 conv=>whnf
 refine Yk h (fun hp7 h=>?_)
 conv=>whnf
 refine Yk h (fun hp8 h=>?_)
 conv=>whnf
 refine YH h ?_
 rintro I9 μ9 ⟨v0,l0,⟨⟩⟩ zs9 h hI9 hR9
 change ZGO a2 l09Links0 l09Live0 l09Count0 v0 l0=some zs9 at h
 unfold ZGO at h
 conv=>whnf
 refine ZG h (fun h=>?_) (fun h=>?_)
 conv=>whnf
 refine ⟨by kernel_rfl,?_⟩
 conv=>whnf
 refine vAt h (fun x0 he10a he10b he10x h=>?_)
 conv=>whnf
 refine ⟨_,hb4,?_⟩
 conv=>whnf
 refine Ze h (fun l09Reach0 hb11 h=>?_)
 conv=>whnf
 refine ⟨trivial,?_⟩
 conv=>whnf
 refine YH h ?_
 rintro I12 μ12 ⟨v1,l1,⟨⟩⟩ zs12 h hI12 hR12
 change ZG4 v0 l09Reach0 v1 l1=some zs12 at h
 unfold ZG4 at h
 conv=>whnf
 refine ZG h (fun h=>?_) (fun h=>?_)
 conv=>whnf
 refine vAt h (fun x1 he13a he13b he13x h=>?_)
 conv=>whnf
 refine ⟨by kernel_rfl,?_⟩
 conv=>whnf
 refine ⟨he13a,he13b,Zh he13x ?_⟩
 conv=>whnf
 refine Zmk h (fun h=>?_) (fun h=>?_)
 conv=>whnf
 refine ⟨he13a,he13b,Zh he13x ?_⟩
 conv=>whnf
 refine ⟨by kernel_rfl,?_⟩
 conv=>whnf
 refine ⟨by decide,?_⟩
 conv=>whnf
 refine ⟨he13a,he13b,Zh he13x ?_⟩
 conv=>whnf
 cases h
 exact ⟨⟨rfl,rfl⟩,hI12 _ rfl⟩
 conv=>whnf
 refine vAt h (fun x2 he14a he14b he14x h=>?_)
 conv=>whnf
 refine ⟨by kernel_rfl,?_⟩
 conv=>whnf
 refine ⟨he14a,he14b,Zh he14x ?_⟩
 conv=>whnf
 refine ⟨he13a,he13b,Zh he13x ?_⟩
 conv=>whnf
 refine ⟨by kernel_rfl,?_⟩
 conv=>whnf
 refine ⟨by decide,?_⟩
 conv=>whnf
 refine ⟨he13a,he13b,Zh he13x ?_⟩
 conv=>whnf
 cases h
 exact ⟨⟨rfl,rfl⟩,hI12 _ rfl⟩
 conv=>whnf
 cases h
 obtain rfl:=hR12 _ rfl
 exact ⟨⟨rfl,rfl⟩,hI9 _ rfl⟩
 conv=>whnf
 refine Ze h (fun l09Listed0 hb15 h=>?_)
 conv=>whnf
 cases h
 obtain rfl:=hR9 _ rfl
 exact hK
 conv=>whnf
 cases h
 exact hK
 conv=>whnf
 cases h
 exact hK
theorem w35 (q0:Sq 176 c32) (q1:Sq 177 c33) (q2:Sq 178 c34):Sq 95 c35:=by
 refine Zm ZL (Zg q0 (Zg q1 (Zg q2 Zu))) mixed {loops:=[(0,[.reg 5 (.own (.ol 9 (.flat (.str)))),.reg 6 (.dat Iq)]),(2,[.reg 7 (.own (.ol 9 (.flat (.str)))),.reg 8 (.dat Iq)]),(4,[.reg 10 (.dat Iq),.ent 6 (nat_lit 2) (.flat Znz.ety)]),(6,[.reg 12 (.dat Iq),.ent 6 (nat_lit 2) (.flat Znz.ety)]),(8,[.reg 13 (.dat Iq)])]} (fn:=Tryz.f95) Tryz.func95 (by kernel_rfl) (by kernel_rfl) ?_
 rintro ⟨a0,a1,⟨⟩⟩ K ⟨r,h,hK⟩
 change ZtW a0 a1=some r at h
 unfold ZtW at h
 conv=>whnf
 refine Ze h (fun IsLibrary0 hb0 h=>?_)
 conv=>whnf
 refine Zj4 ?_
 refine Qn h (fun h=>?_) (fun h=>?_)
 conv=>whnf
 refine ZcV h (fun h=>?_) (fun h=>?_)
 conv=>whnf
 cases h
 exact hK
 conv=>whnf
 refine ZcV h (fun h=>?_) (fun h=>?_)
 conv=>whnf
 cases h
 exact hK
 conv=>whnf
 refine ZcV h (fun h=>?_) (fun h=>?_)
 conv=>whnf
 cases h
 exact hK
 conv=>whnf
 refine Ze h (fun l05Parts0 hb1 h=>?_)
 conv=>whnf
 refine Yc ?_
 refine Qn h (fun h=>?_) (fun h=>?_)
 conv=>whnf
 refine YH h ?_
 rintro I2 μ2 ⟨v0,v1,⟨⟩⟩ zs2 h hI2 hR2
 change ZsP a1 v0 v1=some zs2 at h
 unfold ZsP at h
 conv=>whnf
 refine ZG h (fun h=>?_) (fun h=>?_)
 conv=>whnf
 refine vAt h (fun x0 he3a he3b he3x h=>?_)
 conv=>whnf
 refine Yk h (fun hp4 h=>?_)
 conv=>whnf
 cases h
 exact ⟨⟨rfl,rfl⟩,hI2 _ rfl⟩
 conv=>whnf
 refine YH h ?_
 rintro I5 μ5 ⟨v2,v3,⟨⟩⟩ zs5 h hI5 hR5
 change ZsO a1 v0 v2 v3=some zs5 at h
 unfold ZsO at h
 conv=>whnf
 refine ZG h (fun h=>?_) (fun h=>?_)
 conv=>whnf
 refine vAt h (fun x0 he6a he6b he6x h=>?_)
 conv=>whnf
 refine Yk h (fun hp7 h=>?_)
 conv=>whnf
 cases h
 exact ⟨⟨rfl,rfl⟩,hI5 _ rfl⟩
 conv=>whnf
 refine Ze h (fun l05Names0 hb8 h=>?_)
 conv=>whnf
 refine Zj4 ?_
 refine Qn h (fun h=>?_) (fun h=>?_)
 conv=>whnf
 refine Ze h (fun l05Names1 hb9 h=>?_)
 conv=>whnf
 refine Zj4 ?_
 refine Qn h (fun h=>?_) (fun h=>?_)
 conv=>whnf
 refine Ze h (fun l05Names2 hb10 h=>?_)
 conv=>whnf
 refine Yc ?_
 refine Qn h (fun h=>?_) (fun h=>?_)
 conv=>whnf
 refine Yk h (fun hp11 h=>?_)
 conv=>whnf
 refine Yk h (fun hp12 h=>?_)
 conv=>whnf
 refine Yk h (fun hp13 h=>?_)
 conv=>whnf
 refine Yk h (fun hp14 h=>?_)
 conv=>whnf
 refine YH h ?_
 rintro I15 μ15 ⟨v4,l0,⟨⟩⟩ zs15 h hI15 hR15
 change ZqU a1 v4 l0=some zs15 at h
 unfold ZqU at h
 conv=>whnf
 refine ZG h (fun h=>?_) (fun h=>?_)
 conv=>whnf
 refine vAt h (fun x0 he16a he16b he16x h=>?_)
 conv=>whnf
 refine vAt h (fun x1 he17a he17b he17x h=>?_)
 conv=>whnf
 refine vAt h (fun x2 he18a he18b he18x h=>?_)
 conv=>whnf
 refine ⟨by kernel_rfl,?_⟩
 conv=>whnf
 refine ⟨he18a,he18b,Zh he18x ?_⟩
 conv=>whnf
 refine ⟨he18a,he18b,Zh he18x ?_⟩
 conv=>whnf
 refine ⟨by kernel_rfl,?_⟩
 conv=>whnf
 refine ⟨by decide,?_⟩
 conv=>whnf
 refine ⟨he18a,he18b,Zh he18x ?_⟩
 conv=>whnf
 cases h
 exact ⟨⟨rfl,rfl⟩,hI15 _ rfl⟩
 conv=>whnf
 refine YH h ?_
 rintro I19 μ19 ⟨v5,l1,⟨⟩⟩ zs19 h hI19 hR19
 change ZqT a1 v5 l1=some zs19 at h
 unfold ZqT at h
 conv=>whnf
 refine ZG h (fun h=>?_) (fun h=>?_)
 conv=>whnf
 refine vAt h (fun x0 he20a he20b he20x h=>?_)
 conv=>whnf
 refine ZG h (fun h=>?_) (fun h=>?_)
 conv=>whnf
 refine ⟨he20a,he20b,Zh he20x ?_⟩
 conv=>whnf
 refine vAt h (fun x1 he21a he21b he21x h=>?_)
 conv=>whnf
 refine ⟨by kernel_rfl,?_⟩
 conv=>whnf
 refine ⟨he21a,he21b,Zh he21x ?_⟩
 conv=>whnf
 refine ⟨he21a,he21b,Zh he21x ?_⟩
 conv=>whnf
 refine ⟨by kernel_rfl,?_⟩
 conv=>whnf
 refine ⟨by decide,?_⟩
 conv=>whnf
 refine ⟨he21a,he21b,Zh he21x ?_⟩
 conv=>whnf
 cases h
 exact ⟨⟨rfl,rfl⟩,hI19 _ rfl⟩
 conv=>whnf
 cases h
 exact ⟨⟨rfl,rfl⟩,hI19 _ rfl⟩
 conv=>whnf
 refine YH h ?_
 rintro I22 μ22 ⟨v6,⟨⟩⟩ zs22 h hI22 hR22
 change ZsN l1 v6=some zs22 at h
 unfold ZsN at h
 conv=>whnf
 refine ZG h (fun h=>?_) (fun h=>?_)
 conv=>whnf
 refine vAt h (fun x0 he23a he23b he23x h=>?_)
 conv=>whnf
 refine ⟨by kernel_rfl,?_⟩
 conv=>whnf
 refine ⟨he23a,he23b,Zh he23x ?_⟩
 conv=>whnf
 refine Yc ?_
 refine ZG h (fun h=>?_) (fun h=>?_)
 conv=>whnf
 cases h
 exact ⟨⟨rfl,rfl⟩,hI22 _ rfl⟩
 conv=>whnf
 cases h
 obtain rfl:=hR22 _ rfl
 obtain rfl:=hR19 _ rfl
 obtain rfl:=hR15 _ rfl
 obtain rfl:=hR5 _ rfl
 obtain rfl:=hR2 _ rfl
 exact hK
 conv=>whnf
 cases h
 obtain rfl:=hR22 _ rfl
 obtain rfl:=hR19 _ rfl
 obtain rfl:=hR15 _ rfl
 obtain rfl:=hR5 _ rfl
 obtain rfl:=hR2 _ rfl
 exact hK
 conv=>whnf
 cases h
 obtain rfl:=hR5 _ rfl
 obtain rfl:=hR2 _ rfl
 exact hK
 conv=>whnf
 cases h
 obtain rfl:=hR5 _ rfl
 obtain rfl:=hR2 _ rfl
 exact hK
 conv=>whnf
 cases h
 obtain rfl:=hR5 _ rfl
 obtain rfl:=hR2 _ rfl
 exact hK
 conv=>whnf
 cases h
 exact hK
 conv=>whnf
 cases h
 exact hK
theorem w23:Sq 114 c23:=by
 refine Zm ZL Zu mixed {} (fn:=Tryz.f114) Tryz.func114 (by kernel_rfl) (by kernel_rfl) ?_
 rintro ⟨n0,low0,high0,⟨⟩⟩ K ⟨r,h,hK⟩
 change Yd n0 low0 high0=some r at h
 unfold Yd at h
 conv=>whnf
 refine ZG h (fun h=>?_) (fun h=>?_)
 conv=>whnf
 cases h
 exact hK
 conv=>whnf
 cases h
 exact hK
theorem w5 (q0:Sq 319 c4) (q1:Sq 44 c2):Sq 301 c5:=by
 refine Zm ZL (Zg q0 (Zg q1 Zu)) mixed {loops:=[(0,[.reg 7 (.own (.ol 2 (.flat Iq))),.reg 9 (.dat Iq),.cell 1000 0 (.sl (.int .u8)),.cell 1000 1 Iq,.cell 1000 2 Iq])],draws:=[(10,[0,0,0,4,14,30,0,64,254,511,1023],.op 0 (.op 1 (.op 2 (.op 3 (.op 4 (.op 6 (.alt 5 (.alt 7 (.op 8 (.op 9 (.op 10 (.done)))) (.done)) (.alt 7 (.alt 5 (.op 8 (.op 9 (.op 10 (.done)))) (.done)) (.done))))))))),(12,[0,0,0,0,12,30,62,0,128,510,1023,2047],.op 0 (.op 1 (.op 2 (.op 3 (.op 4 (.op 5 (.op 7 (.alt 6 (.alt 8 (.op 9 (.op 10 (.op 11 (.done)))) (.done)) (.alt 8 (.alt 6 (.op 9 (.op 10 (.op 11 (.done)))) (.done)) (.done))))))))))]} (fn:=Tryz.f301) Tryz.func301 (by kernel_rfl) (by kernel_rfl) ?_
 rintro ⟨a0,a1,⟨⟩⟩ K ⟨r,h,hK⟩
 change Qy a0 a1=some r at h
 unfold Qy at h
 conv=>whnf
 refine Ze h (fun l02DrawAxis0 hb0 h=>?_)
 conv=>whnf
 refine Ze h (fun l02DrawAxis1 hb1 h=>?_)
 conv=>whnf
 refine YH h ?_
 rintro I2 μ2 ⟨v0,v1,c0,c1,c2,⟨⟩⟩ zs2 h hI2 hR2
 change Xq a1 l02DrawAxis0 l02DrawAxis1 v0 v1 c0 c1 c2=some zs2 at h
 unfold Xq at h
 conv=>whnf
 refine ZG h (fun h=>?_) (fun h=>?_)
 conv=>whnf
 refine Ze h (fun l01Next0 hb3 h=>?_)
 conv=>whnf
 refine Yk h (fun hp4 h=>?_)
 conv=>whnf
 refine ZG h (fun h=>?_) (fun h=>?_)
 focus
  conv=>whnf
  refine ⟨by kernel_rfl,?_⟩
  conv=>whnf
  refine vAt h (fun x0 he5a he5b he5x h=>?_)
  conv=>whnf
  obtain ⟨l01Next1,hb6,h⟩:=Option.bind_eq_some_iff.1 h
  refine ⟨?_,?_⟩
  rotate_left
  focus
   conv=>whnf
   refine ⟨_,hb6,?_⟩
   conv=>whnf
   refine ⟨by kernel_rfl,?_⟩
   conv=>whnf
   refine ⟨he5a,he5b,Zh he5x ?_⟩
   conv=>whnf
   refine ⟨trivial,?_⟩
  rotate_right
  focus
   conv=>whnf
   refine ⟨by kernel_rfl,?_⟩
   conv=>whnf
   refine ⟨he5a,he5b,Zh he5x ?_⟩
   conv=>whnf
   refine ⟨_,hb6,?_⟩
   conv=>whnf
   refine ⟨trivial,?_⟩
  all_goals
   conv=>whnf
   refine ZG h (fun h=>?_) (fun h=>?_)
   focus
    conv=>whnf
    refine ⟨by kernel_rfl,?_⟩
    conv=>whnf
    refine vAt h (fun x1 he7a he7b he7x h=>?_)
    conv=>whnf
    obtain ⟨l01Next2,hb8,h⟩:=Option.bind_eq_some_iff.1 h
    refine ⟨?_,?_⟩
    rotate_left
    focus
     conv=>whnf
     refine ⟨_,hb8,?_⟩
     conv=>whnf
     refine ⟨by kernel_rfl,?_⟩
     conv=>whnf
     refine ⟨he7a,he7b,Zh he7x ?_⟩
     conv=>whnf
     refine ⟨trivial,?_⟩
    rotate_right
    focus
     conv=>whnf
     refine ⟨by kernel_rfl,?_⟩
     conv=>whnf
     refine ⟨he7a,he7b,Zh he7x ?_⟩
     conv=>whnf
     refine ⟨_,hb8,?_⟩
     conv=>whnf
     refine ⟨trivial,?_⟩
    all_goals
     conv=>whnf
     refine Yk h (fun hp9 h=>?_)
     conv=>whnf
     cases h
     exact ⟨⟨rfl,rfl⟩,hI2 _ rfl⟩
   conv=>whnf
   refine Yk h (fun hp10 h=>?_)
   conv=>whnf
   cases h
   exact ⟨⟨rfl,rfl⟩,hI2 _ rfl⟩
 conv=>whnf
 refine ZG h (fun h=>?_) (fun h=>?_)
 focus
  conv=>whnf
  refine ⟨by kernel_rfl,?_⟩
  conv=>whnf
  refine vAt h (fun x0 he11a he11b he11x h=>?_)
  conv=>whnf
  obtain ⟨l01Next1,hb12,h⟩:=Option.bind_eq_some_iff.1 h
  refine ⟨?_,?_⟩
  rotate_left
  focus
   conv=>whnf
   refine ⟨_,hb12,?_⟩
   conv=>whnf
   refine ⟨by kernel_rfl,?_⟩
   conv=>whnf
   refine ⟨he11a,he11b,Zh he11x ?_⟩
   conv=>whnf
   refine ⟨trivial,?_⟩
  rotate_right
  focus
   conv=>whnf
   refine ⟨by kernel_rfl,?_⟩
   conv=>whnf
   refine ⟨he11a,he11b,Zh he11x ?_⟩
   conv=>whnf
   refine ⟨_,hb12,?_⟩
   conv=>whnf
   refine ⟨trivial,?_⟩
  all_goals
   conv=>whnf
   refine Yk h (fun hp13 h=>?_)
   conv=>whnf
   cases h
   exact ⟨⟨rfl,rfl⟩,hI2 _ rfl⟩
 conv=>whnf
 refine Yk h (fun hp14 h=>?_)
 conv=>whnf
 cases h
 exact ⟨⟨rfl,rfl⟩,hI2 _ rfl⟩
 conv=>whnf
 cases h
 obtain rfl:=hR2 _ rfl
 exact hK
theorem w3:Sq 263 c3:=by
 refine Zm ZL Zu mixed {loops:=[(0,[.reg 5 (.dat (.bool)),.reg 6 (.dat (.bool)),.reg 8 (.dat Iq)])],draws:=[(7,[0,1,3,7,3,31,63,3,131,3,3,1539,3971,8067,16383,32767,65535],.op 0 (.op 1 (.op 2 (.op 3 (.op 4 (.op 5 (.op 6 (.op 7 (.op 8 (.op 9 (.op 10 (.op 11 (.op 12 (.op 13 (.op 14 (.op 15 (.op 16 (.done)))))))))))))))))),(8,[0,1,3,7,3,31,63,3,131,3,3,1539,3971,8067,16383,32767,65535],.op 0 (.op 1 (.op 2 (.op 3 (.op 4 (.op 5 (.op 6 (.op 7 (.op 8 (.op 9 (.op 10 (.op 11 (.op 12 (.op 13 (.op 14 (.op 15 (.op 16 (.done))))))))))))))))))]} (fn:=Tryz.f263) Tryz.func263 (by kernel_rfl) (by kernel_rfl) ?_
 rintro ⟨c0,pin0,⟨⟩⟩ K ⟨r,h,hK⟩
 change X5 c0 pin0=some r at h
 unfold X5 at h
 conv=>whnf
 refine Yk h (fun hp0 h=>?_)
 conv=>whnf
 refine YH h ?_
 rintro I1 μ1 ⟨raises0,lowers0,i0,⟨⟩⟩ zs1 h hI1 hR1
 change Xb c0 pin0 raises0 lowers0 i0=some zs1 at h
 unfold Xb at h
 conv=>whnf
 refine ZG h (fun h=>?_) (fun h=>?_)
 conv=>whnf
 refine Yc ?_
 refine ZG h (fun h=>?_) (fun h=>?_)
 conv=>whnf
 refine ⟨by kernel_rfl,?_⟩
 conv=>whnf
 refine Zmk h (fun h=>?_) (fun h=>?_)
 conv=>whnf
 refine ⟨trivial,?_⟩
 conv=>whnf
 refine ⟨by kernel_rfl,?_⟩
 conv=>whnf
 refine Zmk h (fun h=>?_) (fun h=>?_)
 conv=>whnf
 refine ⟨trivial,?_⟩
 conv=>whnf
 cases h
 exact ⟨⟨rfl,rfl⟩,hI1 _ rfl⟩
 conv=>whnf
 refine vAt h (fun x0 he2a he2b he2x h=>?_)
 conv=>whnf
 refine vAt h (fun x1 he3a he3b he3x h=>?_)
 conv=>whnf
 refine ⟨trivial,?_⟩
 conv=>whnf
 cases h
 exact ⟨⟨rfl,rfl⟩,hI1 _ rfl⟩
 conv=>whnf
 refine vAt h (fun x0 he4a he4b he4x h=>?_)
 conv=>whnf
 refine vAt h (fun x1 he5a he5b he5x h=>?_)
 conv=>whnf
 refine ⟨trivial,?_⟩
 conv=>whnf
 refine ⟨by kernel_rfl,?_⟩
 conv=>whnf
 refine Zmk h (fun h=>?_) (fun h=>?_)
 conv=>whnf
 refine ⟨trivial,?_⟩
 conv=>whnf
 cases h
 exact ⟨⟨rfl,rfl⟩,hI1 _ rfl⟩
 conv=>whnf
 refine ⟨he4a,he4b,Zh he4x ?_⟩
 conv=>whnf
 refine ⟨he5a,he5b,Zh he5x ?_⟩
 conv=>whnf
 refine ⟨trivial,?_⟩
 conv=>whnf
 cases h
 exact ⟨⟨rfl,rfl⟩,hI1 _ rfl⟩
 conv=>whnf
 cases h
 exact ⟨⟨rfl,rfl⟩,hI1 _ rfl⟩
 conv=>whnf
 refine Qn h (fun h=>?_) (fun h=>?_)
 conv=>whnf
 refine Qn h (fun h=>?_) (fun h=>?_)
 conv=>whnf
 cases h
 obtain rfl:=hR1 _ rfl
 exact hK
 conv=>whnf
 refine Qn h (fun h=>?_) (fun h=>?_)
 conv=>whnf
 cases h
 obtain rfl:=hR1 _ rfl
 exact hK
 conv=>whnf
 refine Qn h (fun h=>?_) (fun h=>?_)
 conv=>whnf
 cases h
 obtain rfl:=hR1 _ rfl
 exact hK
 conv=>whnf
 cases h
 obtain rfl:=hR1 _ rfl
 exact hK
 conv=>whnf
 refine Qn h (fun h=>?_) (fun h=>?_)
 conv=>whnf
 cases h
 obtain rfl:=hR1 _ rfl
 exact hK
 conv=>whnf
 refine Qn h (fun h=>?_) (fun h=>?_)
 conv=>whnf
 cases h
 obtain rfl:=hR1 _ rfl
 exact hK
 conv=>whnf
 cases h
 obtain rfl:=hR1 _ rfl
 exact hK
theorem w41 (q0:Sq 96 c13):Sq 138 c41:=by
 refine Zm ZL (Zg q0 Zu) mixed {loops:=[(0,[.reg 6 (.dat Iq)])]} (fn:=Tryz.f138) Tryz.func138 (by kernel_rfl) (by kernel_rfl) ?_
 rintro ⟨d0,net0,⟨⟩⟩ K ⟨r,h,hK⟩
 change ZHn d0 net0=some r at h
 unfold ZHn at h
 conv=>whnf
 refine Ze h (fun l05Places0 hb0 h=>?_)
 conv=>whnf
 refine YH h ?_
 rintro I1 μ1 ⟨i0,⟨⟩⟩ zs1 h hI1 hR1
 change ZGY net0 l05Places0 i0=some zs1 at h
 unfold ZGY at h
 conv=>whnf
 refine ZG h (fun h=>?_) (fun h=>?_)
 conv=>whnf
 refine vAt h (fun x0 he2a he2b he2x h=>?_)
 conv=>whnf
 refine ⟨by kernel_rfl,?_⟩
 conv=>whnf
 refine ⟨he2a,he2b,Zh he2x ?_⟩
 conv=>whnf
 refine ZG h (fun h=>?_) (fun h=>?_)
 conv=>whnf
 refine ⟨he2a,he2b,Zh he2x ?_⟩
 conv=>whnf
 refine ⟨by kernel_rfl,?_⟩
 conv=>whnf
 refine ⟨he2a,he2b,Zh he2x ?_⟩
 conv=>whnf
 refine Qn h (fun h=>?_) (fun h=>?_)
 conv=>whnf
 cases h
 obtain rfl:=hR1 _ rfl
 exact hK
 conv=>whnf
 cases h
 exact ⟨⟨rfl,rfl⟩,hI1 _ rfl⟩
 conv=>whnf
 cases h
 exact ⟨⟨rfl,rfl⟩,hI1 _ rfl⟩
 conv=>whnf
 cases h
 obtain rfl:=hR1 _ rfl
 exact hK
theorem w18 (q2:Sq 197 c10) (q3:Sq 198 c12) (q1:Sq 139 c14) (q0:Sq 164 c17):Sq 125 c18:=by
 refine Zm VX (Zg q2 (Zg q3 (Zg q1 (Zg q0 Zu)))) mixed {loops:=[(0,[.reg 9 (.own (.ol 58 (ZgI))),.reg 10 (.dat Iq),.cell 0 0 (.sl (.int .u8)),.cell 0 1 Iq,.cell 0 2 Iq])]} (fn:=Tryz.f125) Tryz.func125 (by kernel_rfl) (by kernel_rfl) ?_
 rintro ⟨s0,most0,wild0,⟨⟩⟩ K ⟨r,h,hK⟩
 change Qz s0 most0 wild0=some r at h
 unfold Qz at h
 conv=>whnf
 refine Ze h (fun l03Draw0 hb0 h=>?_)
 conv=>whnf
 intro fp1
 conv=>whnf
 refine Ze h (fun l05Draw0 hb2 h=>?_)
 conv=>whnf
 intro fp3
 conv=>whnf
 intro fp4
 conv=>whnf
 refine YH h ?_
 rintro I5 μ5 ⟨wires0,net0,c0,c1,c2,⟨⟩⟩ zs5 h hI5 hR5
 change Xy l03Draw0 l05Draw0 wires0 net0 c0 c1 c2=some zs5 at h
 unfold Xy at h
 conv=>whnf
 intro fp6
 conv=>whnf
 refine ZG h (fun h=>?_) (fun h=>?_)
 conv=>whnf
 refine Ze h (fun l05Sinks0 hb7 h=>?_)
 conv=>whnf
 refine Ze h (fun l07DrawWire0 hb8 h=>?_)
 conv=>whnf
 intro fp9
 conv=>whnf
 refine Yk h (fun hp10 h=>?_)
 conv=>whnf
 intro fp11
 conv=>whnf
 cases h
 exact ⟨⟨rfl,rfl⟩,hI5 _ rfl⟩
 conv=>whnf
 cases h
 obtain rfl:=hR5 _ rfl
 exact hK
theorem w43 (q1:Sq 77 c37) (q2:Sq 44 c2) (q0:Sq 69 c42):Sq 126 c43:=by
 refine Zm ZL (Zg q1 (Zg q2 (Zg q0 Zu))) mixed {loops:=[(0,[.reg 5 (.own (.ol 2 (.flat Iq))),.reg 8 (.dat Iq),.cell 0 0 (.sl (.int .u8)),.cell 0 1 Iq,.cell 0 2 Iq])]} (fn:=Tryz.f126) Tryz.func126 (by kernel_rfl) (by kernel_rfl) ?_
 rintro ⟨s0,b0,⟨⟩⟩ K ⟨r,h,hK⟩
 change ZGx s0 b0=some r at h
 unfold ZGx at h
 conv=>whnf
 refine Ze h (fun IsBlock0 hb0 h=>?_)
 conv=>whnf
 refine Zj4 ?_
 refine Qn h (fun h=>?_) (fun h=>?_)
 conv=>whnf
 refine Ze h (fun l01Next0 hb1 h=>?_)
 conv=>whnf
 refine ZG h (fun h=>?_) (fun h=>?_)
 conv=>whnf
 cases h
 exact hK
 conv=>whnf
 refine Ze h (fun l09Links0 hb2 h=>?_)
 conv=>whnf
 refine Ze h (fun l01Next1 hb3 h=>?_)
 conv=>whnf
 refine Ze h (fun l01Next2 hb4 h=>?_)
 conv=>whnf
 refine YH h ?_
 rintro I5 μ5 ⟨out0,k0,c0,c1,c2,⟨⟩⟩ zs5 h hI5 hR5
 change ZGE l09Links0 l01Next1 out0 k0 c0 c1 c2=some zs5 at h
 unfold ZGE at h
 conv=>whnf
 refine ZG h (fun h=>?_) (fun h=>?_)
 conv=>whnf
 refine Yk h (fun hp6 h=>?_)
 conv=>whnf
 refine Ze h (fun l01Next3 hb7 h=>?_)
 conv=>whnf
 cases h
 exact ⟨⟨rfl,rfl⟩,hI5 _ rfl⟩
 conv=>whnf
 refine Ze h (fun l01Next3 hb8 h=>?_)
 conv=>whnf
 refine ZG h (fun h=>?_) (fun h=>?_)
 conv=>whnf
 refine Ze h (fun l01Next4 hb9 h=>?_)
 conv=>whnf
 refine Yk h (fun hp10 h=>?_)
 conv=>whnf
 cases h
 obtain rfl:=hR5 _ rfl
 exact hK
 conv=>whnf
 cases h
 obtain rfl:=hR5 _ rfl
 exact hK
 conv=>whnf
 cases h
 exact hK
theorem w44:Sq 141 c44:=by
 refine Zm ZL Zu mixed {loops:=[(0,[.reg 5 (.dat Iq)])]} (fn:=Tryz.f141) Tryz.func141 (by kernel_rfl) (by kernel_rfl) ?_
 rintro ⟨list0,x0,⟨⟩⟩ K ⟨r,h,hK⟩
 change ZHx list0 x0=some r at h
 unfold ZHx at h
 conv=>whnf
 refine YH h ?_
 rintro I0 μ0 ⟨i0,⟨⟩⟩ zs0 h hI0 hR0
 change ZHt list0 x0 i0=some zs0 at h
 unfold ZHt at h
 conv=>whnf
 refine ZG h (fun h=>?_) (fun h=>?_)
 conv=>whnf
 refine vAt h (fun x1 he1a he1b he1x h=>?_)
 conv=>whnf
 refine ZG h (fun h=>?_) (fun h=>?_)
 conv=>whnf
 cases h
 obtain rfl:=hR0 _ rfl
 exact hK
 conv=>whnf
 cases h
 exact ⟨⟨rfl,rfl⟩,hI0 _ rfl⟩
 conv=>whnf
 cases h
 obtain rfl:=hR0 _ rfl
 exact hK
theorem w39:Sq 140 c39:=by
 refine Zm VX Zu mixed {} (fn:=Tryz.f140) Tryz.func140 (by kernel_rfl) (by kernel_rfl) ?_
 rintro ⟨list0,from0,to0,a0,b0,kind0,index0,⟨⟩⟩ K ⟨r,h,hK⟩
 change ZGR list0 from0 to0 a0 b0 kind0 index0=some r at h
 unfold ZGR at h
 conv=>whnf
 refine Yk h (fun hp0 h=>?_)
 conv=>whnf
 cases h
 exact hK
theorem ZF7 (q1:Sq 71 c46) (q0:Sq 135 ZBa):Sq 68 c131:=by
 refine Zm ZL (Zg q1 (Zg q0 Zu)) mixed {} (fn:=Tryz.f68) Tryz.func68 (by kernel_rfl) (by kernel_rfl) ?_
 rintro ⟨b0,list0,⟨⟩⟩ K ⟨r,h,hK⟩
 change ZHA b0 list0=some r at h
 unfold ZHA at h
 conv=>whnf
 refine Ze h (fun l09Count0 hb0 h=>?_)
 conv=>whnf
 refine Ze h (fun l09Rising0 hb1 h=>?_)
 conv=>whnf
 cases h
 exact hK
end Go.Proofs.YtnnbgbgapogckaaGreatDoor
