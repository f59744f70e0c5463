/-
  The functions keep their contracts, if what they call does. Printed by program.
-/
import Derived.Test.YtnnbgbgapogckaaGreatDoorM
import Derived.KernelRfl
namespace Go.Proofs.YtnnbgbgapogckaaGreatDoor
open Go Go.Sx
set_option maxRecDepth 100000
set_option maxHeartbeats 6400000
set_option linter.unusedVariables false
set_option linter.unusedSimpArgs false
theorem w42 (q0:Sq 189 c41):Sq 109 c42:=by
 refine Zm ZL (Zg q0 Zu) mixed {} (fn:=Tryz.f109) Tryz.func109 (by kernel_rfl) (by kernel_rfl) ?_
 rintro ⟨list0,low0,high0,⟨⟩⟩ K ⟨r,h,hK⟩
 change Qf list0 low0 high0=some r at h
 unfold Qf at h
 conv=>whnf
 refine Ze h (fun c1_0 hb0 h=>?_)
 conv=>whnf
 cases h
 exact hK
theorem w43 (q2:Sq 108 c37) (q0:Sq 110 c38) (q1:Sq 109 c42):Sq 51 c43:=by
 refine Zm ZL (Zg q2 (Zg q0 (Zg q1 Zu))) mixed {} (fn:=Tryz.f51) Tryz.func51 (by kernel_rfl) (by kernel_rfl) ?_
 rintro ⟨list0,clocks0,⟨⟩⟩ K ⟨r,h,hK⟩
 change XF list0 clocks0=some r at h
 unfold XF at h
 conv=>whnf
 refine Ze h (fun IsClocks0 hb0 h=>?_)
 conv=>whnf
 refine Yc ?_
 refine Qn h (fun h=>?_) (fun h=>?_)
 conv=>whnf
 refine Ze h (fun Clock0 hb1 h=>?_)
 conv=>whnf
 refine Ze h (fun areWithin0 hb2 h=>?_)
 conv=>whnf
 refine Yc ?_
 refine Qn h (fun h=>?_) (fun h=>?_)
 conv=>whnf
 cases h
 exact hK
 conv=>whnf
 cases h
 exact hK
 conv=>whnf
 cases h
 exact hK
theorem w48 (q2:Sq 51 c43) (q0:Sq 100 c44) (q3:Sq 101 c45) (q4:Sq 52 c31) (q1:Sq 102 c47):Sq 45 c48:=by
 refine Zm ZL (Zg q2 (Zg q0 (Zg q3 (Zg q4 (Zg q1 Zu))))) mixed {} (fn:=Tryz.f45) Tryz.func45 (by kernel_rfl) (by kernel_rfl) ?_
 rintro ⟨a0,a1,a2,a3,a4,⟨⟩⟩ K ⟨r,h,hK⟩
 change Q9 a0 a1 a2 a3 a4=some r at h
 unfold Q9 at h
 conv=>whnf
 refine Ze h (fun clockCode0 hb0 h=>?_)
 conv=>whnf
 refine Yc ?_
 refine ZG h (fun h=>?_) (fun h=>?_)
 conv=>whnf
 refine Ze h (fun isTransition0 hb1 h=>?_)
 conv=>whnf
 refine Zj4 ?_
 refine Qn h (fun h=>?_) (fun h=>?_)
 conv=>whnf
 refine Ze h (fun isTransition1 hb2 h=>?_)
 conv=>whnf
 refine Yc ?_
 refine Qn h (fun h=>?_) (fun h=>?_)
 conv=>whnf
 refine Ze h (fun rootOf0 hb3 h=>?_)
 conv=>whnf
 refine Ze h (fun rootOf1 hb4 h=>?_)
 conv=>whnf
 refine Yc ?_
 refine ZG h (fun h=>?_) (fun h=>?_)
 conv=>whnf
 refine Ze h (fun waveOf0 hb5 h=>?_)
 conv=>whnf
 refine Ze h (fun waveOf1 hb6 h=>?_)
 conv=>whnf
 refine Ze h (fun hyperPeriod0 hb7 h=>?_)
 conv=>whnf
 refine ZcV h (fun h=>?_) (fun h=>?_)
 conv=>whnf
 cases h
 exact hK
 conv=>whnf
 refine Yk h (fun hp8 h=>?_)
 conv=>whnf
 refine ZG h (fun h=>?_) (fun h=>?_)
 conv=>whnf
 cases h
 exact hK
 conv=>whnf
 cases h
 exact hK
 conv=>whnf
 cases h
 exact hK
 conv=>whnf
 cases h
 exact hK
 conv=>whnf
 cases h
 exact hK
 conv=>whnf
 cases h
 exact hK
theorem w52 (q0:Sq 103 c51):Sq 46 c52:=by
 refine Zm ZL (Zg q0 Zu) mixed {loops:=[(0,[.reg 3 (.dat Iq),.reg 12 (.dat Iq),.ent 1 (nat_lit 51) (Dp.ol (2:Go.TypeId) (Dp.flat (Ty.int IntKind.i64)))])],draws:=[(5,[0,0,2,6,0,16,48,126,255,511],.op 0 (.op 1 (.op 2 (.op 3 (.op 4 (.op 5 (.op 6 (.op 7 (.op 8 (.op 9 (.done)))))))))))]} (fn:=Tryz.f46) Tryz.func46 (by kernel_rfl) (by kernel_rfl) ?_
 rintro ⟨x0,⟨⟩⟩ K ⟨r,h,hK⟩
 change Xg x0=some r at h
 unfold Xg at h
 conv=>whnf
 refine Ze h (fun pairs0 hb0 h=>?_)
 conv=>whnf
 intro fp1
 conv=>whnf
 refine YH h ?_
 rintro I2 μ2 ⟨least0,v0,l0,⟨⟩⟩ zs2 h hI2 hR2
 change Qk pairs0 least0 v0 l0=some zs2 at h
 unfold Qk at h
 conv=>whnf
 intro fp3
 conv=>whnf
 refine ZG h (fun h=>?_) (fun h=>?_)
 conv=>whnf
 refine vAt h (fun x1 he4a he4b he4x h=>?_)
 conv=>whnf
 refine ⟨he4a,he4b,Zh he4x ?_⟩
 conv=>whnf
 intro fp5
 conv=>whnf
 refine ⟨by kernel_rfl,?_⟩
 conv=>whnf
 refine vAt h (fun x2 he6a he6b he6x h=>?_)
 conv=>whnf
 refine ⟨by kernel_rfl,?_⟩
 conv=>whnf
 refine ⟨he6a,he6b,Zh he6x ?_⟩
 conv=>whnf
 refine vAt h (fun x3 he7a he7b he7x h=>?_)
 conv=>whnf
 refine ⟨by kernel_rfl,?_⟩
 conv=>whnf
 refine ⟨he7a,he7b,Zh he7x ?_⟩
 conv=>whnf
 refine ⟨trivial,?_⟩
 conv=>whnf
 cases h
 exact ⟨⟨rfl,rfl⟩,hI2 _ rfl⟩
 conv=>whnf
 cases h
 obtain rfl:=hR2 _ rfl
 exact hK
theorem w44:Sq 100 c44:=by
 refine Zm ZL Zu mixed {} (fn:=Tryz.f100) Tryz.func100 (by kernel_rfl) (by kernel_rfl) ?_
 rintro ⟨n0,⟨⟩⟩ K ⟨r,h,hK⟩
 change Yz n0=some r at h
 unfold Yz at h
 conv=>whnf
 refine ZcV h (fun h=>?_) (fun h=>?_)
 conv=>whnf
 cases h
 exact hK
 conv=>whnf
 cases h
 exact hK
theorem w45:Sq 101 c45:=by
 refine Zm ZL Zu mixed {loops:=[(0,[.reg 1 (.dat Iq)])]} (fn:=Tryz.f101) Tryz.func101 (by kernel_rfl) (by kernel_rfl) ?_
 rintro ⟨list0,k0,⟨⟩⟩ K ⟨r,h,hK⟩
 change Q7 list0 k0=some r at h
 unfold Q7 at h
 conv=>whnf
 refine YH h ?_
 rintro I0 μ0 ⟨k1,⟨⟩⟩ zs0 h hI0 hR0
 change QS list0 k1=some zs0 at h
 unfold QS at h
 conv=>whnf
 refine vAt h (fun x0 he1a he1b he1x h=>?_)
 conv=>whnf
 refine ZG h (fun h=>?_) (fun h=>?_)
 conv=>whnf
 refine ⟨he1a,he1b,Zh he1x ?_⟩
 conv=>whnf
 cases h
 exact ⟨⟨rfl,rfl⟩,hI0 _ rfl⟩
 conv=>whnf
 cases h
 obtain rfl:=hR0 _ rfl
 exact hK
theorem w50 (q0:Sq 226 c49):Sq 183 c50:=by
 refine Zm ZL (Zg q0 Zu) mixed {draws:=[(1,[0,0,0,6,14,0,62,0,128,510,1023,2047],.op 0 (.op 1 (.op 2 (.op 3 (.op 4 (.op 5 (.op 6 (.op 7 (.op 8 (.alt 9 (.op 10 (.op 11 (.done))) (.done)))))))))))]} (fn:=Tryz.f183) Tryz.func183 (by kernel_rfl) (by kernel_rfl) ?_
 rintro ⟨w0,edge0,time0,⟨⟩⟩ K ⟨r,h,hK⟩
 change Qh w0 edge0 time0=some r at h
 unfold Qh at h
 conv=>whnf
 refine ⟨by kernel_rfl,?_⟩
 conv=>whnf
 refine Yk h (fun hp0 h=>?_)
 conv=>whnf
 refine Yk h (fun hp1 h=>?_)
 conv=>whnf
 refine ⟨fun hi=>?_,fun hi=>?_,trivial⟩
 have hi:edge0=(0:Int):=hi
 simp only [hi,if_true,Int.reduceEq,if_false] at h
 conv=>whnf
 refine Ze h (fun modulo0 hb2 h=>?_)
 conv=>whnf
 refine ⟨trivial,?_⟩
 conv=>whnf
 cases h
 exact hK
 have hi:edge0=(1:Int):=hi
 simp only [hi,if_true,Int.reduceEq,if_false] at h
 conv=>whnf
 refine Ze h (fun modulo0 hb3 h=>?_)
 conv=>whnf
 refine ⟨trivial,?_⟩
 conv=>whnf
 cases h
 exact hK
theorem w35 (q0:Sq 249 c34):Sq 230 c35:=by
 refine Zm ZL (Zg q0 Zu) mixed {} (fn:=Tryz.f230) Tryz.func230 (by kernel_rfl) (by kernel_rfl) ?_
 rintro ⟨s0,v0,⟨⟩⟩ K ⟨r,h,hK⟩
 change ZJ s0 v0=some r at h
 unfold ZJ at h
 conv=>whnf
 refine Ze h (fun string0 hb0 h=>?_)
 conv=>whnf
 cases h
 exact hK
theorem w34:Sq 249 c34:=by
 refine Zm ZL Zu mixed {loops:=[(0,[.reg 8 (.dat Iq)])]} (fn:=Tryz.f249) Tryz.func249 (by kernel_rfl) (by kernel_rfl) ?_
 rintro ⟨s0,v0,⟨⟩⟩ K ⟨r,h,hK⟩
 change ZP s0 v0=some r at h
 unfold ZP at h
 conv=>whnf
 refine YH h ?_
 rintro I0 μ0 ⟨v1,⟨⟩⟩ zs0 h hI0 hR0
 change ZM s0 v0 v1=some zs0 at h
 unfold ZM at h
 conv=>whnf
 refine ZG h (fun h=>?_) (fun h=>?_)
 conv=>whnf
 refine vAt h (fun x0 he1a he1b he1x h=>?_)
 conv=>whnf
 refine ZG h (fun h=>?_) (fun h=>?_)
 conv=>whnf
 cases h
 obtain rfl:=hR0 _ rfl
 exact hK
 conv=>whnf
 cases h
 exact ⟨⟨rfl,rfl⟩,hI0 _ rfl⟩
 conv=>whnf
 cases h
 obtain rfl:=hR0 _ rfl
 exact hK
theorem w28 (q1:Sq 42 c1) (q0:Sq 43 c27) (q2:Sq 44 c2):Sq 10 c28:=by
 refine Zm VX (Zg q1 (Zg q0 (Zg q2 Zu))) mixed {draws:=[(4,[0,0,0,4,14,0,62,126,254,0,0,1024,3710,7807,16383,32767],.op 1 (.op 2 (.op 3 (.op 5 (.op 9 (.op 10 (.op 11 (.ld 0 (.alt 4 (.alt 6 (.op 7 (.op 8 (.alt 12 (.alt 13 (.op 14 (.op 15 (.done))) (.done)) (.done)))) (.done)) (.done))))))))))]} (fn:=Tryz.f10) Tryz.func10 (by kernel_rfl) (by kernel_rfl) ?_
 rintro ⟨code0,⟨⟩⟩ K ⟨r,h,hK⟩
 change YC code0=some r at h
 unfold YC at h
 conv=>whnf
 refine Ze h (fun l01From0 hb0 h=>?_)
 conv=>whnf
 refine Ze h (fun l31DrawAny0 hb1 h=>?_)
 conv=>whnf
 intro fp2
 conv=>whnf
 intro fp3
 conv=>whnf
 intro fp4
 conv=>whnf
 intro fp5
 conv=>whnf
 refine ⟨by kernel_rfl,?_⟩
 conv=>whnf
 refine ⟨by kernel_rfl,?_⟩
 conv=>whnf
 refine ⟨by kernel_rfl,?_⟩
 conv=>whnf
 refine Ze h (fun l01Next0 hb6 h=>?_)
 conv=>whnf
 refine ⟨by kernel_rfl,?_⟩
 conv=>whnf
 refine Ze h (fun l01Next1 hb7 h=>?_)
 conv=>whnf
 refine ⟨by decide,?_⟩
 conv=>whnf
 refine ⟨by kernel_rfl,?_⟩
 conv=>whnf
 refine Ze h (fun l01Next2 hb8 h=>?_)
 conv=>whnf
 refine ⟨trivial,?_⟩
 conv=>whnf
 cases h
 exact hK
theorem w25 (q1:Sq 224 c22) (q0:Sq 225 c23) (q2:Sq 114 c21) (q3:Sq 106 c24):Sq 181 c25:=by
 refine Zm ZL (Zg q1 (Zg q0 (Zg q2 (Zg q3 Zu)))) mixed {loops:=[(0,[.reg 3 (.dat Iq)]),(2,[.reg 5 (.dat Iq)])],draws:=[(10,[0,0,3,7,15,0,32,127],.op 0 (.op 1 (.op 2 (.op 3 (.op 4 (.op 5 (.op 6 (.op 7 (.done)))))))))]} (fn:=Tryz.f181) Tryz.func181 (by kernel_rfl) (by kernel_rfl) ?_
 rintro ⟨a0,⟨⟩⟩ K ⟨r,h,hK⟩
 change Y1 a0=some r at h
 unfold Y1 at h
 conv=>whnf
 refine YH h ?_
 rintro I0 μ0 ⟨v0,⟨⟩⟩ zs0 h hI0 hR0
 change Xa a0 v0=some zs0 at h
 unfold Xa at h
 conv=>whnf
 refine ZG h (fun h=>?_) (fun h=>?_)
 conv=>whnf
 refine ZG h (fun h=>?_) (fun h=>?_)
 conv=>whnf
 refine vAt h (fun x0 he1a he1b he1x h=>?_)
 conv=>whnf
 refine Ze h (fun l14Plain0 hb2 h=>?_)
 conv=>whnf
 refine Yc ?_
 refine Qn h (fun h=>?_) (fun h=>?_)
 conv=>whnf
 refine YH h ?_
 rintro I3 μ3 ⟨v1,⟨⟩⟩ zs3 h hI3 hR3
 change YE a0 v0 x0 v1=some zs3 at h
 unfold YE at h
 conv=>whnf
 refine ZG h (fun h=>?_) (fun h=>?_)
 conv=>whnf
 refine ⟨by kernel_rfl,?_⟩
 conv=>whnf
 refine vAt h (fun x1 he4a he4b he4x h=>?_)
 conv=>whnf
 refine ⟨trivial,?_⟩
 conv=>whnf
 refine ZG h (fun h=>?_) (fun h=>?_)
 conv=>whnf
 cases h
 obtain rfl:=hR3 _ rfl
 obtain rfl:=hR0 _ rfl
 exact hK
 conv=>whnf
 cases h
 exact ⟨⟨rfl,rfl⟩,hI3 _ rfl⟩
 conv=>whnf
 refine ZG h (fun h=>?_) (fun h=>?_)
 conv=>whnf
 refine Ze h (fun l14Primary0 hb5 h=>?_)
 conv=>whnf
 refine Yc ?_
 refine Qn h (fun h=>?_) (fun h=>?_)
 conv=>whnf
 cases h
 obtain rfl:=hR3 _ rfl
 exact ⟨⟨rfl,rfl⟩,hI0 _ rfl⟩
 conv=>whnf
 cases h
 obtain rfl:=hR3 _ rfl
 obtain rfl:=hR0 _ rfl
 exact hK
 conv=>whnf
 refine Ze h (fun l01In0 hb6 h=>?_)
 conv=>whnf
 refine Zj4 ?_
 refine Qn h (fun h=>?_) (fun h=>?_)
 conv=>whnf
 refine Ze h (fun l01In1 hb7 h=>?_)
 conv=>whnf
 refine Zj4 ?_
 refine Qn h (fun h=>?_) (fun h=>?_)
 conv=>whnf
 refine Zj4 ?_
 refine ZG h (fun h=>?_) (fun h=>?_)
 conv=>whnf
 refine Zj4 ?_
 refine ZG h (fun h=>?_) (fun h=>?_)
 conv=>whnf
 refine Zj4 ?_
 refine ZG h (fun h=>?_) (fun h=>?_)
 conv=>whnf
 refine Ze h (fun l14Of0 hb8 h=>?_)
 conv=>whnf
 refine ZG h (fun h=>?_) (fun h=>?_)
 conv=>whnf
 cases h
 obtain rfl:=hR3 _ rfl
 obtain rfl:=hR0 _ rfl
 exact hK
 conv=>whnf
 cases h
 obtain rfl:=hR3 _ rfl
 exact ⟨⟨rfl,rfl⟩,hI0 _ rfl⟩
 conv=>whnf
 cases h
 obtain rfl:=hR3 _ rfl
 obtain rfl:=hR0 _ rfl
 exact hK
 conv=>whnf
 cases h
 obtain rfl:=hR3 _ rfl
 obtain rfl:=hR0 _ rfl
 exact hK
 conv=>whnf
 cases h
 obtain rfl:=hR3 _ rfl
 obtain rfl:=hR0 _ rfl
 exact hK
 conv=>whnf
 cases h
 obtain rfl:=hR3 _ rfl
 obtain rfl:=hR0 _ rfl
 exact hK
 conv=>whnf
 cases h
 obtain rfl:=hR3 _ rfl
 obtain rfl:=hR0 _ rfl
 exact hK
 conv=>whnf
 cases h
 obtain rfl:=hR0 _ rfl
 exact hK
 conv=>whnf
 cases h
 obtain rfl:=hR0 _ rfl
 exact hK
 conv=>whnf
 cases h
 obtain rfl:=hR0 _ rfl
 exact hK
theorem w62 (q1:Sq 104 c58) (q0:Sq 105 c61):Sq 48 c62:=by
 refine Zm ZL (Zg q1 (Zg q0 Zu)) mixed {loops:=[(0,[.reg 14 (.dat Iq),.reg 15 (.dat Iq),.ent 0 (nat_lit 51) (Dp.ol (2:Go.TypeId) (Dp.flat (Ty.int IntKind.i64)))])],draws:=[(5,[0,1,3,7,15,0,32,96,224,480,1023,2047],.op 0 (.op 1 (.op 2 (.op 3 (.op 4 (.op 5 (.op 6 (.op 7 (.op 8 (.op 9 (.op 10 (.op 11 (.done))))))))))))),(9,[0,0,0,6,14,30,62,0,0,384,896,1920,3968,8190,16383,32767],.op 0 (.op 1 (.op 2 (.op 3 (.op 4 (.op 5 (.op 6 (.op 7 (.op 8 (.op 9 (.op 10 (.op 11 (.op 12 (.op 13 (.op 14 (.op 15 (.done)))))))))))))))))]} (fn:=Tryz.f48) Tryz.func48 (by kernel_rfl) (by kernel_rfl) ?_
 rintro ⟨list0,a0,ea0,b0,eb0,⟨⟩⟩ K ⟨r,h,hK⟩
 change Ym list0 a0 ea0 b0 eb0=some r at h
 unfold Ym at h
 conv=>whnf
 refine Ze h (fun l15Code0 hb0 h=>?_)
 conv=>whnf
 refine Yc ?_
 refine ZG h (fun h=>?_) (fun h=>?_)
 conv=>whnf
 refine Ze h (fun l15Pairs0 hb1 h=>?_)
 conv=>whnf
 intro fp2
 conv=>whnf
 refine ⟨by kernel_rfl,?_⟩
 conv=>whnf
 refine vAt h (fun x0 he3a he3b he3x h=>?_)
 conv=>whnf
 refine ⟨he3a,he3b,Zh he3x ?_⟩
 conv=>whnf
 intro fp4
 conv=>whnf
 refine vAt h (fun x1 he5a he5b he5x h=>?_)
 conv=>whnf
 refine ⟨by kernel_rfl,?_⟩
 conv=>whnf
 refine ⟨he5a,he5b,Zh he5x ?_⟩
 conv=>whnf
 refine ⟨he3a,he3b,Zh he3x ?_⟩
 conv=>whnf
 refine .inl ⟨rfl,?_⟩
 conv=>whnf
 refine vAt h (fun x2 he6a he6b he6x h=>?_)
 conv=>whnf
 refine ⟨by kernel_rfl,?_⟩
 conv=>whnf
 refine ⟨he6a,he6b,Zh he6x ?_⟩
 conv=>whnf
 refine ⟨trivial,?_⟩
 conv=>whnf
 refine YH h ?_
 rintro I7 μ7 ⟨best0,i0,l0,⟨⟩⟩ zs7 h hI7 hR7
 change Xf best0 i0 l0=some zs7 at h
 unfold Xf at h
 conv=>whnf
 intro fp8
 conv=>whnf
 refine ZG h (fun h=>?_) (fun h=>?_)
 conv=>whnf
 refine ⟨by kernel_rfl,?_⟩
 conv=>whnf
 refine vAt h (fun x3 he9a he9b he9x h=>?_)
 conv=>whnf
 refine ⟨he9a,he9b,Zh he9x ?_⟩
 conv=>whnf
 intro fp10
 conv=>whnf
 refine vAt h (fun x4 he11a he11b he11x h=>?_)
 conv=>whnf
 refine ⟨by kernel_rfl,?_⟩
 conv=>whnf
 refine ⟨he11a,he11b,Zh he11x ?_⟩
 conv=>whnf
 refine ⟨he9a,he9b,Zh he9x ?_⟩
 conv=>whnf
 refine .inl ⟨rfl,?_⟩
 conv=>whnf
 refine vAt h (fun x5 he12a he12b he12x h=>?_)
 conv=>whnf
 refine ⟨by kernel_rfl,?_⟩
 conv=>whnf
 refine ⟨he12a,he12b,Zh he12x ?_⟩
 conv=>whnf
 refine ⟨trivial,?_⟩
 conv=>whnf
 cases h
 exact ⟨⟨rfl,rfl⟩,hI7 _ rfl⟩
 conv=>whnf
 cases h
 obtain rfl:=hR7 _ rfl
 exact hK
 conv=>whnf
 cases h
 exact hK
theorem w1:Sq 42 c1:=by
 refine Zm ZL Zu mixed {loops:=[(0,[.reg 4 (.dat Iq),.cell 1007 2 Iq])],draws:=[(5,[0,0,2,6,14,30,0,0,192,448,960,2046,4094,8191,16383,32767],.op 0 (.op 1 (.op 2 (.op 3 (.op 4 (.op 5 (.op 6 (.op 7 (.op 8 (.op 9 (.alt 10 (.op 11 (.op 12 (.op 13 (.op 14 (.alt 15 (.done) (.done)))))) (.done))))))))))))]} (fn:=Tryz.f42) Tryz.func42 (by kernel_rfl) (by kernel_rfl) ?_
 rintro ⟨code0,⟨⟩⟩ K ⟨r,h,hK⟩
 change Ve code0=some r at h
 unfold Ve at h
 conv=>whnf
 refine YH h ?_
 rintro I0 μ0 ⟨i0,c0,⟨⟩⟩ zs0 h hI0 hR0
 change Xp code0 i0 c0=some zs0 at h
 unfold Xp at h
 conv=>whnf
 refine ZG h (fun h=>?_) (fun h=>?_)
 conv=>whnf
 refine ZG h (fun h=>?_) (fun h=>?_)
 conv=>whnf
 refine ⟨by kernel_rfl,?_⟩
 conv=>whnf
 refine vAt h (fun x0 he1a he1b he1x h=>?_)
 conv=>whnf
 refine ⟨by decide,?_⟩
 conv=>whnf
 refine ⟨trivial,?_⟩
 conv=>whnf
 cases h
 exact ⟨⟨rfl,rfl⟩,hI0 _ rfl⟩
 conv=>whnf
 cases h
 obtain rfl:=hR0 _ rfl
 exact hK
 conv=>whnf
 cases h
 obtain rfl:=hR0 _ rfl
 exact hK
theorem w9 (q1:Sq 44 c2) (q0:Sq 264 c7):Sq 239 c9:=by
 refine Zm VX (Zg q1 (Zg q0 Zu)) mixed {} (fn:=Tryz.f239) Tryz.func239 (by kernel_rfl) (by kernel_rfl) ?_
 rintro ⟨s0,name0,kind0,edge0,⟨⟩⟩ K ⟨r,h,hK⟩
 change Yq s0 name0 kind0 edge0=some r at h
 unfold Yq at h
 conv=>whnf
 refine Ze h (fun l01Next0 hb0 h=>?_)
 conv=>whnf
 refine Ze h (fun l01Next1 hb1 h=>?_)
 conv=>whnf
 refine Ze h (fun l01Next2 hb2 h=>?_)
 conv=>whnf
 refine Ze h (fun l01Next3 hb3 h=>?_)
 conv=>whnf
 refine Ze h (fun l03DrawArc0 hb4 h=>?_)
 conv=>whnf
 intro fp5
 conv=>whnf
 intro fp6
 conv=>whnf
 refine Ze h (fun l03DrawArc1 hb7 h=>?_)
 conv=>whnf
 intro fp8
 conv=>whnf
 intro fp9
 conv=>whnf
 refine Ze h (fun l03DrawArc2 hb10 h=>?_)
 conv=>whnf
 intro fp11
 conv=>whnf
 intro fp12
 conv=>whnf
 intro fp13
 conv=>whnf
 refine ZG h (fun h=>?_) (fun h=>?_)
 conv=>whnf
 refine Ze h (fun l03DrawArc3 hb14 h=>?_)
 conv=>whnf
 intro fp15
 conv=>whnf
 intro fp16
 conv=>whnf
 intro fp17
 conv=>whnf
 refine Yk h (fun hp18 h=>?_)
 conv=>whnf
 intro fp19
 conv=>whnf
 cases h
 exact hK
 conv=>whnf
 cases h
 exact hK
theorem w6 (q0:Sq 301 c5):Sq 286 c6:=by
 refine Zm VX (Zg q0 Zu) mixed {draws:=[(2,[0,0,0,6,15,31],.op 1 (.op 2 (.alt 0 (.alt 3 (.alt 4 (.op 5 (.done)) (.done)) (.done)) (.alt 3 (.alt 0 (.alt 4 (.op 5 (.done)) (.done)) (.done)) (.done)))))]} (fn:=Tryz.f286) Tryz.func286 (by kernel_rfl) (by kernel_rfl) ?_
 rintro ⟨s0,base0,⟨⟩⟩ K ⟨r,h,hK⟩
 change Z7 s0 base0=some r at h
 unfold Z7 at h
 focus
  conv=>whnf
  refine Ze h (fun l02Draw0 hb0 h=>?_)
  conv=>whnf
  refine ⟨by kernel_rfl,?_⟩
  conv=>whnf
  obtain ⟨l02Draw1,hb1,h⟩:=Option.bind_eq_some_iff.1 h
  refine ⟨?_,?_⟩
  rotate_left
  focus
   conv=>whnf
   refine ⟨_,hb1,?_⟩
   conv=>whnf
   intro fp3
   conv=>whnf
   refine ⟨trivial,?_⟩
  rotate_right
  focus
   conv=>whnf
   refine ⟨_,hb1,?_⟩
   conv=>whnf
   intro fp3
   conv=>whnf
   refine ⟨trivial,?_⟩
  all_goals
   conv=>whnf
   cases h
   exact hK
theorem w8 (q2:Sq 44 c2) (q1:Sq 263 c3) (q0:Sq 264 c7):Sq 238 c8:=by
 refine Zm VX (Zg q2 (Zg q1 (Zg q0 Zu))) mixed {loops:=[(0,[.reg 9 (.own (.ol 255 (.flat (Zl9)))),.reg 10 (.dat Iq),.cell 1000 0 (.sl (.int .u8)),.cell 1000 1 Iq,.cell 1000 2 Iq]),(2,[.reg 12 (.own (.ol 219 (ZmF))),.reg 13 (.dat Iq),.cell 1000 0 (.sl (.int .u8)),.cell 1000 1 Iq,.cell 1000 2 Iq])],draws:=[(7,[0,0,0,4,14,30,0,64,192,510,1022,2047,4095],.op 0 (.op 1 (.op 2 (.op 3 (.op 4 (.op 6 (.alt 5 (.alt 7 (.op 8 (.op 9 (.alt 10 (.alt 11 (.op 12 (.done)) (.done)) (.done)))) (.done)) (.alt 7 (.op 8 (.alt 5 (.op 9 (.alt 10 (.alt 11 (.op 12 (.done)) (.done)) (.done))) (.done))) (.done)))))))))]} (fn:=Tryz.f238) Tryz.func238 (by kernel_rfl) (by kernel_rfl) ?_
 rintro ⟨a0,a1,a2,⟨⟩⟩ K ⟨r,h,hK⟩
 change Y3 a0 a1 a2=some r at h
 unfold Y3 at h
 conv=>whnf
 refine Ze h (fun l01Next0 hb0 h=>?_)
 conv=>whnf
 refine Ze h (fun l01Next1 hb1 h=>?_)
 conv=>whnf
 refine YH h ?_
 rintro I2 μ2 ⟨v0,v1,c0,c1,c2,⟨⟩⟩ zs2 h hI2 hR2
 change Xt a1 a2 l01Next0 l01Next1 v0 v1 c0 c1 c2=some zs2 at h
 unfold Xt at h
 conv=>whnf
 refine ZG h (fun h=>?_) (fun h=>?_)
 focus
  conv=>whnf
  refine ⟨by kernel_rfl,?_⟩
  conv=>whnf
  refine vAt h (fun x0 he3a he3b he3x h=>?_)
  conv=>whnf
  obtain ⟨l01Next2,hb4,h⟩:=Option.bind_eq_some_iff.1 h
  obtain ⟨hp5,h⟩:=guardE h
  refine ⟨?_,?_⟩
  rotate_left
  focus
   conv=>whnf
   refine ⟨_,hb4,?_⟩
   conv=>whnf
   refine ⟨by kernel_rfl,?_⟩
   conv=>whnf
   refine ⟨he3a,he3b,Zh he3x ?_⟩
   conv=>whnf
   refine ⟨hp5,?_⟩
   conv=>whnf
   refine ⟨trivial,?_⟩
  rotate_right
  focus
   conv=>whnf
   refine ⟨by kernel_rfl,?_⟩
   conv=>whnf
   refine ⟨he3a,he3b,Zh he3x ?_⟩
   conv=>whnf
   refine ⟨_,hb4,?_⟩
   conv=>whnf
   refine ⟨hp5,?_⟩
   conv=>whnf
   refine ⟨trivial,?_⟩
  all_goals
   conv=>whnf
   cases h
   exact ⟨⟨rfl,rfl⟩,hI2 _ rfl⟩
 conv=>whnf
 refine Yk h (fun hp6 h=>?_)
 conv=>whnf
 intro fp7
 conv=>whnf
 refine YH h ?_
 rintro I8 μ8 ⟨v2,v3,c3,c4,c5,⟨⟩⟩ zs8 h hI8 hR8
 change Xr a1 a2 l01Next0 l01Next1 v0 v2 v3 c3 c4 c5=some zs8 at h
 unfold Xr at h
 conv=>whnf
 intro fp9
 conv=>whnf
 refine ZG h (fun h=>?_) (fun h=>?_)
 conv=>whnf
 refine Ze h (fun l03Sense0 hb10 h=>?_)
 conv=>whnf
 refine Yc ?_
 refine ZG h (fun h=>?_) (fun h=>?_)
 conv=>whnf
 cases h
 exact ⟨⟨rfl,rfl⟩,hI8 _ rfl⟩
 conv=>whnf
 refine Ze h (fun l03DrawArc0 hb11 h=>?_)
 conv=>whnf
 intro fp12
 conv=>whnf
 intro fp13
 conv=>whnf
 intro fp14
 conv=>whnf
 refine Yk h (fun hp15 h=>?_)
 conv=>whnf
 intro fp16
 conv=>whnf
 cases h
 exact ⟨⟨rfl,rfl⟩,hI8 _ rfl⟩
 conv=>whnf
 cases h
 obtain rfl:=hR8 _ rfl
 obtain rfl:=hR2 _ rfl
 exact hK
theorem w18 (q2:Sq 197 c10) (q3:Sq 198 c12) (q1:Sq 139 c14) (q0:Sq 164 c17):Sq 125 c18:=by
 refine Zm VX (Zg q2 (Zg q3 (Zg q1 (Zg q0 Zu)))) mixed {loops:=[(0,[.reg 9 (.own (.ol 58 (ZgI))),.reg 10 (.dat Iq),.cell 0 0 (.sl (.int .u8)),.cell 0 1 Iq,.cell 0 2 Iq])]} (fn:=Tryz.f125) Tryz.func125 (by kernel_rfl) (by kernel_rfl) ?_
 rintro ⟨s0,most0,wild0,⟨⟩⟩ K ⟨r,h,hK⟩
 change Qz s0 most0 wild0=some r at h
 unfold Qz at h
 conv=>whnf
 refine Ze h (fun l03Draw0 hb0 h=>?_)
 conv=>whnf
 intro fp1
 conv=>whnf
 refine Ze h (fun l05Draw0 hb2 h=>?_)
 conv=>whnf
 intro fp3
 conv=>whnf
 intro fp4
 conv=>whnf
 refine YH h ?_
 rintro I5 μ5 ⟨wires0,net0,c0,c1,c2,⟨⟩⟩ zs5 h hI5 hR5
 change Xy l03Draw0 l05Draw0 wires0 net0 c0 c1 c2=some zs5 at h
 unfold Xy at h
 conv=>whnf
 intro fp6
 conv=>whnf
 refine ZG h (fun h=>?_) (fun h=>?_)
 conv=>whnf
 refine Ze h (fun l05Sinks0 hb7 h=>?_)
 conv=>whnf
 refine Ze h (fun l07DrawWire0 hb8 h=>?_)
 conv=>whnf
 intro fp9
 conv=>whnf
 refine Yk h (fun hp10 h=>?_)
 conv=>whnf
 intro fp11
 conv=>whnf
 cases h
 exact ⟨⟨rfl,rfl⟩,hI5 _ rfl⟩
 conv=>whnf
 cases h
 obtain rfl:=hR5 _ rfl
 exact hK
theorem w19 (q1:Sq 44 c2) (q0:Sq 163 c11):Sq 180 c19:=by
 refine Zm ZL (Zg q1 (Zg q0 Zu)) mixed {loops:=[(0,[.reg 3 (.own (.ol 102 (.flat (Xd)))),.reg 4 (.dat Iq),.cell 1000 0 (.sl (.int .u8)),.cell 1000 1 Iq,.cell 1000 2 Iq]),(3,[.reg 3 (.own (.ol 102 (.flat (Xd))))])],draws:=[(11,[0,1,3,0,0,16,48,120,255,0,512,2047,4095,8191],.op 0 (.op 3 (.op 4 (.op 5 (.op 6 (.op 9 (.alt 1 (.op 2 (.alt 7 (.op 8 (.alt 10 (.op 11 (.op 12 (.alt 13 (.done) (.done)))) (.done))) (.alt 10 (.alt 7 (.op 8 (.op 11 (.op 12 (.alt 13 (.done) (.done))))) (.done)) (.done)))) (.alt 7 (.alt 1 (.op 2 (.op 8 (.alt 10 (.op 11 (.op 12 (.alt 13 (.done) (.done)))) (.done)))) (.alt 10 (.alt 1 (.op 2 (.op 8 (.op 11 (.op 12 (.alt 13 (.done) (.done)))))) (.done)) (.done))) (.alt 10 (.alt 1 (.op 2 (.alt 7 (.op 8 (.op 11 (.op 12 (.alt 13 (.done) (.done))))) (.done))) (.alt 7 (.alt 1 (.op 2 (.op 8 (.op 11 (.op 12 (.alt 13 (.done) (.done)))))) (.done)) (.done))) (.done))))))))))]} (fn:=Tryz.f180) Tryz.func180 (by kernel_rfl) (by kernel_rfl) ?_
 rintro ⟨a0,⟨⟩⟩ K ⟨r,h,hK⟩
 change QB a0=some r at h
 unfold QB at h
 conv=>whnf
 refine Ze h (fun l01Next0 hb0 h=>?_)
 conv=>whnf
 refine YH h ?_
 rintro I1 μ1 ⟨v0,v1,c0,c1,c2,⟨⟩⟩ zs1 h hI1 hR1
 change XA v0 v1 c0 c1 c2=some zs1 at h
 unfold XA at h
 conv=>whnf
 refine ZG h (fun h=>?_) (fun h=>?_)
 conv=>whnf
 refine Ze h (fun l01Next1 hb2 h=>?_)
 conv=>whnf
 refine Ze h (fun l01Number0 hb3 h=>?_)
 conv=>whnf
 refine Yk h (fun hp4 h=>?_)
 conv=>whnf
 refine Ze h (fun l01Next2 hb5 h=>?_)
 conv=>whnf
 refine Ze h (fun l01Next3 hb6 h=>?_)
 conv=>whnf
 refine Ze h (fun l01Next4 hb7 h=>?_)
 conv=>whnf
 refine ZcV h (fun h=>?_) (fun h=>?_)
 focus
  conv=>whnf
  refine Ze h (fun l01Next5 hb8 h=>?_)
  conv=>whnf
  refine vAt h (fun x0 he9a he9b he9x h=>?_)
  conv=>whnf
  refine ⟨by kernel_rfl,?_⟩
  conv=>whnf
  refine ⟨he9a,he9b,Zh he9x ?_⟩
  conv=>whnf
  refine Ze h (fun l01Next6 hb10 h=>?_)
  conv=>whnf
  refine ⟨by kernel_rfl,?_⟩
  conv=>whnf
  obtain ⟨l01Next7,hb11,h⟩:=Option.bind_eq_some_iff.1 h
  obtain ⟨hp12,h⟩:=guardE h
  refine ⟨?_,?_⟩
  rotate_left
  focus
   conv=>whnf
   refine ⟨?_,?_⟩
   rotate_left
   focus
    conv=>whnf
    refine ⟨?_,?_⟩
    rotate_left
    focus
     conv=>whnf
     refine ⟨_,hb11,?_⟩
     conv=>whnf
     refine ⟨hp12,?_⟩
     conv=>whnf
     refine ⟨trivial,?_⟩
    rotate_right
    focus
     conv=>whnf
     refine ⟨_,hb11,?_⟩
     conv=>whnf
     refine ⟨hp12,?_⟩
     conv=>whnf
     refine ⟨trivial,?_⟩
   rotate_right
   focus
    conv=>whnf
    refine ⟨_,hb11,?_⟩
    conv=>whnf
    refine ⟨?_,?_⟩
    rotate_left
    focus
     conv=>whnf
     refine ⟨hp12,?_⟩
     conv=>whnf
     refine ⟨trivial,?_⟩
    rotate_right
    focus
     conv=>whnf
     refine ⟨hp12,?_⟩
     conv=>whnf
     refine ⟨trivial,?_⟩
  rotate_right
  focus
   conv=>whnf
   refine ⟨?_,?_⟩
   rotate_left
   focus
    conv=>whnf
    refine ⟨_,hb11,?_⟩
    conv=>whnf
    refine ⟨hp12,?_⟩
    conv=>whnf
    refine ⟨trivial,?_⟩
   rotate_right
   focus
    conv=>whnf
    refine ⟨_,hb11,?_⟩
    conv=>whnf
    refine ⟨hp12,?_⟩
    conv=>whnf
    refine ⟨trivial,?_⟩
  all_goals
   conv=>whnf
   refine Yk h (fun hp13 h=>?_)
   conv=>whnf
   cases h
   exact ⟨⟨rfl,rfl⟩,hI1 _ rfl⟩
 conv=>whnf
 refine Ze h (fun l01Next5 hb14 h=>?_)
 conv=>whnf
 refine ZG h (fun h=>?_) (fun h=>?_)
 focus
  conv=>whnf
  refine Ze h (fun l01Next6 hb15 h=>?_)
  conv=>whnf
  refine vAt h (fun x0 he16a he16b he16x h=>?_)
  conv=>whnf
  refine ⟨by kernel_rfl,?_⟩
  conv=>whnf
  refine ⟨he16a,he16b,Zh he16x ?_⟩
  conv=>whnf
  refine Ze h (fun l01Next7 hb17 h=>?_)
  conv=>whnf
  refine ⟨by kernel_rfl,?_⟩
  conv=>whnf
  obtain ⟨l01Next8,hb18,h⟩:=Option.bind_eq_some_iff.1 h
  obtain ⟨hp19,h⟩:=guardE h
  refine ⟨?_,?_⟩
  rotate_left
  focus
   conv=>whnf
   refine ⟨?_,?_⟩
   rotate_left
   focus
    conv=>whnf
    refine ⟨?_,?_⟩
    rotate_left
    focus
     conv=>whnf
     refine ⟨_,hb18,?_⟩
     conv=>whnf
     refine ⟨hp19,?_⟩
     conv=>whnf
     refine ⟨trivial,?_⟩
    rotate_right
    focus
     conv=>whnf
     refine ⟨_,hb18,?_⟩
     conv=>whnf
     refine ⟨hp19,?_⟩
     conv=>whnf
     refine ⟨trivial,?_⟩
   rotate_right
   focus
    conv=>whnf
    refine ⟨_,hb18,?_⟩
    conv=>whnf
    refine ⟨?_,?_⟩
    rotate_left
    focus
     conv=>whnf
     refine ⟨hp19,?_⟩
     conv=>whnf
     refine ⟨trivial,?_⟩
    rotate_right
    focus
     conv=>whnf
     refine ⟨hp19,?_⟩
     conv=>whnf
     refine ⟨trivial,?_⟩
  rotate_right
  focus
   conv=>whnf
   refine ⟨?_,?_⟩
   rotate_left
   focus
    conv=>whnf
    refine ⟨_,hb18,?_⟩
    conv=>whnf
    refine ⟨hp19,?_⟩
    conv=>whnf
    refine ⟨trivial,?_⟩
   rotate_right
   focus
    conv=>whnf
    refine ⟨_,hb18,?_⟩
    conv=>whnf
    refine ⟨hp19,?_⟩
    conv=>whnf
    refine ⟨trivial,?_⟩
  all_goals
   conv=>whnf
   refine Yk h (fun hp20 h=>?_)
   conv=>whnf
   cases h
   exact ⟨⟨rfl,rfl⟩,hI1 _ rfl⟩
 conv=>whnf
 refine Ze h (fun l01Next6 hb21 h=>?_)
 conv=>whnf
 refine Ze h (fun l01Next7 hb22 h=>?_)
 conv=>whnf
 refine Ze h (fun l01Next8 hb23 h=>?_)
 conv=>whnf
 refine Yk h (fun hp24 h=>?_)
 conv=>whnf
 cases h
 exact ⟨⟨rfl,rfl⟩,hI1 _ rfl⟩
 conv=>whnf
 refine Ze h (fun l01Next1 hb25 h=>?_)
 conv=>whnf
 refine Ze h (fun l01Next2 hb26 h=>?_)
 conv=>whnf
 refine ZG h (fun h=>?_) (fun h=>?_)
 conv=>whnf
 refine Ze h (fun l01Next3 hb27 h=>?_)
 conv=>whnf
 refine vAt h (fun x0 he28a he28b he28x h=>?_)
 conv=>whnf
 refine ⟨by kernel_rfl,?_⟩
 conv=>whnf
 refine ⟨by decide,?_⟩
 conv=>whnf
 refine ⟨he28a,he28b,Zh he28x ?_⟩
 conv=>whnf
 cases h
 obtain rfl:=hR1 _ rfl
 exact hK
 conv=>whnf
 refine ZG h (fun h=>?_) (fun h=>?_)
 conv=>whnf
 refine vAt h (fun x0 he29a he29b he29x h=>?_)
 conv=>whnf
 refine ⟨by kernel_rfl,?_⟩
 conv=>whnf
 refine ⟨he29a,he29b,Zh he29x ?_⟩
 conv=>whnf
 refine ⟨he29a,he29b,Zh he29x ?_⟩
 conv=>whnf
 refine ⟨by kernel_rfl,?_⟩
 conv=>whnf
 refine ⟨by decide,?_⟩
 conv=>whnf
 refine ⟨he29a,he29b,Zh he29x ?_⟩
 conv=>whnf
 cases h
 obtain rfl:=hR1 _ rfl
 exact hK
 conv=>whnf
 refine ZG h (fun h=>?_) (fun h=>?_)
 conv=>whnf
 refine vAt h (fun x0 he30a he30b he30x h=>?_)
 conv=>whnf
 refine ⟨by kernel_rfl,?_⟩
 conv=>whnf
 refine ⟨he30a,he30b,Zh he30x ?_⟩
 conv=>whnf
 refine vAt h (fun x1 he31a he31b he31x h=>?_)
 conv=>whnf
 refine ⟨by kernel_rfl,?_⟩
 conv=>whnf
 refine ⟨by decide,?_⟩
 conv=>whnf
 refine ⟨he31a,he31b,Zh he31x ?_⟩
 conv=>whnf
 cases h
 obtain rfl:=hR1 _ rfl
 exact hK
 conv=>whnf
 refine ZG h (fun h=>?_) (fun h=>?_)
 conv=>whnf
 refine vAt h (fun x0 he32a he32b he32x h=>?_)
 conv=>whnf
 refine ⟨by kernel_rfl,?_⟩
 conv=>whnf
 refine ⟨by decide,?_⟩
 conv=>whnf
 refine ⟨he32a,he32b,Zh he32x ?_⟩
 conv=>whnf
 cases h
 obtain rfl:=hR1 _ rfl
 exact hK
 conv=>whnf
 refine ZG h (fun h=>?_) (fun h=>?_)
 conv=>whnf
 refine vAt h (fun x0 he33a he33b he33x h=>?_)
 conv=>whnf
 refine ⟨by kernel_rfl,?_⟩
 conv=>whnf
 refine ⟨he33a,he33b,Zh he33x ?_⟩
 conv=>whnf
 refine ⟨he33a,he33b,Zh he33x ?_⟩
 conv=>whnf
 refine ⟨by kernel_rfl,?_⟩
 conv=>whnf
 refine ⟨by decide,?_⟩
 conv=>whnf
 refine ⟨he33a,he33b,Zh he33x ?_⟩
 conv=>whnf
 cases h
 obtain rfl:=hR1 _ rfl
 exact hK
 conv=>whnf
 refine ZG h (fun h=>?_) (fun h=>?_)
 conv=>whnf
 refine Ze h (fun l01Next3 hb34 h=>?_)
 conv=>whnf
 refine vAt h (fun x0 he35a he35b he35x h=>?_)
 conv=>whnf
 refine ⟨by kernel_rfl,?_⟩
 conv=>whnf
 refine ⟨by decide,?_⟩
 conv=>whnf
 refine ⟨he35a,he35b,Zh he35x ?_⟩
 conv=>whnf
 cases h
 obtain rfl:=hR1 _ rfl
 exact hK
 conv=>whnf
 refine ZG h (fun h=>?_) (fun h=>?_)
 conv=>whnf
 refine YH h ?_
 rintro I36 μ36 ⟨v2,⟨⟩⟩ zs36 h hI36 hR36
 change Xz l01Next2 v2=some zs36 at h
 unfold Xz at h
 conv=>whnf
 refine ZG h (fun h=>?_) (fun h=>?_)
 conv=>whnf
 refine vAt h (fun x0 he37a he37b he37x h=>?_)
 conv=>whnf
 refine ⟨by kernel_rfl,?_⟩
 conv=>whnf
 refine ⟨he37a,he37b,Zh he37x ?_⟩
 conv=>whnf
 refine Ze h (fun l01Number0 hb38 h=>?_)
 conv=>whnf
 refine Yk h (fun hp39 h=>?_)
 conv=>whnf
 refine Yk h (fun hp40 h=>?_)
 conv=>whnf
 cases h
 exact ⟨⟨rfl,rfl⟩,hI36 _ rfl⟩
 conv=>whnf
 cases h
 obtain rfl:=hR36 _ rfl
 obtain rfl:=hR1 _ rfl
 exact hK
 conv=>whnf
 cases h
 obtain rfl:=hR1 _ rfl
 exact hK
theorem w59:Sq 228 c59:=by
 refine Zm ZL Zu mixed {} (fn:=Tryz.f228) Tryz.func228 (by kernel_rfl) (by kernel_rfl) ?_
 rintro ⟨w0,edge0,⟨⟩⟩ K ⟨r,h,hK⟩
 change Vi w0 edge0=some r at h
 unfold Vi at h
 conv=>whnf
 refine ZG h (fun h=>?_) (fun h=>?_)
 conv=>whnf
 cases h
 exact hK
 conv=>whnf
 cases h
 exact hK
theorem w22 (q0:Sq 147 c20) (q1:Sq 114 c21):Sq 224 c22:=by
 refine Zm ZL (Zg q0 (Zg q1 Zu)) mixed {} (fn:=Tryz.f224) Tryz.func224 (by kernel_rfl) (by kernel_rfl) ?_
 rintro ⟨c0,⟨⟩⟩ K ⟨r,h,hK⟩
 change QV c0=some r at h
 unfold QV at h
 conv=>whnf
 refine Ze h (fun l03Name0 hb0 h=>?_)
 conv=>whnf
 refine Qn h (fun h=>?_) (fun h=>?_)
 conv=>whnf
 refine ZG h (fun h=>?_) (fun h=>?_)
 conv=>whnf
 refine Ze h (fun l01In0 hb1 h=>?_)
 conv=>whnf
 refine Qn h (fun h=>?_) (fun h=>?_)
 conv=>whnf
 refine Ze h (fun l01In1 hb2 h=>?_)
 conv=>whnf
 refine Qn h (fun h=>?_) (fun h=>?_)
 conv=>whnf
 refine Ze h (fun l01In2 hb3 h=>?_)
 conv=>whnf
 cases h
 exact hK
 conv=>whnf
 cases h
 exact hK
 conv=>whnf
 cases h
 exact hK
 conv=>whnf
 cases h
 exact hK
 conv=>whnf
 cases h
 exact hK
theorem w55:Sq 184 c55:=by
 refine Zm ZL Zu mixed {loops:=[(0,[.reg 1 (.dat Iq)])]} (fn:=Tryz.f184) Tryz.func184 (by kernel_rfl) (by kernel_rfl) ?_
 rintro ⟨list0,k0,⟨⟩⟩ K ⟨r,h,hK⟩
 change QE list0 k0=some r at h
 unfold QE at h
 conv=>whnf
 refine YH h ?_
 rintro I0 μ0 ⟨k1,⟨⟩⟩ zs0 h hI0 hR0
 change Qm list0 k1=some zs0 at h
 unfold Qm at h
 conv=>whnf
 refine vAt h (fun x0 he1a he1b he1x h=>?_)
 conv=>whnf
 refine ZG h (fun h=>?_) (fun h=>?_)
 conv=>whnf
 refine ⟨he1a,he1b,Zh he1x ?_⟩
 conv=>whnf
 cases h
 exact ⟨⟨rfl,rfl⟩,hI0 _ rfl⟩
 conv=>whnf
 cases h
 obtain rfl:=hR0 _ rfl
 exact hK
theorem w58 (q0:Sq 181 c25) (q3:Sq 114 c21) (q2:Sq 184 c55) (q1:Sq 185 c57) (q4:Sq 106 c24):Sq 104 c58:=by
 refine Zm ZL (Zg q0 (Zg q3 (Zg q2 (Zg q1 (Zg q4 Zu))))) mixed {} (fn:=Tryz.f104) Tryz.func104 (by kernel_rfl) (by kernel_rfl) ?_
 rintro ⟨list0,a0,ea0,b0,eb0,⟨⟩⟩ K ⟨r,h,hK⟩
 change QF list0 a0 ea0 b0 eb0=some r at h
 unfold QF at h
 conv=>whnf
 refine Ze h (fun IsClocks0 hb0 h=>?_)
 conv=>whnf
 refine Yc ?_
 refine Qn h (fun h=>?_) (fun h=>?_)
 conv=>whnf
 refine Ze h (fun l01In0 hb1 h=>?_)
 conv=>whnf
 refine Zj4 ?_
 refine Qn h (fun h=>?_) (fun h=>?_)
 conv=>whnf
 refine Ze h (fun l01In1 hb2 h=>?_)
 conv=>whnf
 refine Yc ?_
 refine Qn h (fun h=>?_) (fun h=>?_)
 conv=>whnf
 refine Ze h (fun l01In2 hb3 h=>?_)
 conv=>whnf
 refine Zj4 ?_
 refine Qn h (fun h=>?_) (fun h=>?_)
 conv=>whnf
 refine Ze h (fun l01In3 hb4 h=>?_)
 conv=>whnf
 refine Yc ?_
 refine Qn h (fun h=>?_) (fun h=>?_)
 conv=>whnf
 refine Ze h (fun l14Root0 hb5 h=>?_)
 conv=>whnf
 refine Ze h (fun l14Root1 hb6 h=>?_)
 conv=>whnf
 refine Yc ?_
 refine ZG h (fun h=>?_) (fun h=>?_)
 conv=>whnf
 refine Ze h (fun l14Hyper0 hb7 h=>?_)
 conv=>whnf
 refine ZcV h (fun h=>?_) (fun h=>?_)
 conv=>whnf
 cases h
 exact hK
 conv=>whnf
 refine Ze h (fun l14Of0 hb8 h=>?_)
 conv=>whnf
 refine Yk h (fun hp9 h=>?_)
 conv=>whnf
 refine ZG h (fun h=>?_) (fun h=>?_)
 conv=>whnf
 cases h
 exact hK
 conv=>whnf
 cases h
 exact hK
 conv=>whnf
 cases h
 exact hK
 conv=>whnf
 cases h
 exact hK
 conv=>whnf
 cases h
 exact hK
 conv=>whnf
 cases h
 exact hK
 conv=>whnf
 cases h
 exact hK
 conv=>whnf
 cases h
 exact hK
end Go.Proofs.YtnnbgbgapogckaaGreatDoor
