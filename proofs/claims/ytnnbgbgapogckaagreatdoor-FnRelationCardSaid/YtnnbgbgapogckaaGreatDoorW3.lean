/-
  The functions keep their contracts, if what they call does. Printed by program.
-/
import Derived.Test.YtnnbgbgapogckaaGreatDoorM
import Derived.KernelRfl
namespace Go.Proofs.YtnnbgbgapogckaaGreatDoor
open Go Go.Sx
set_option maxRecDepth 100000
set_option maxHeartbeats 6400000
set_option linter.unusedVariables false
set_option linter.unusedSimpArgs false
theorem w37 (q1:Sq 187 c32) (q0:Sq 188 c36):Sq 108 c37:=by
 refine Zm ZL (Zg q1 (Zg q0 Zu)) mixed {loops:=[(0,[.reg 3 (.own (.ol 9 (.flat (.str)))),.reg 11 (.dat Iq)])]} (fn:=Tryz.f108) Tryz.func108 (by kernel_rfl) (by kernel_rfl) ?_
 rintro ⟨list0,⟨⟩⟩ K ⟨r,h,hK⟩
 change QN list0=some r at h
 unfold QN at h
 conv=>whnf
 refine ZG h (fun h=>?_) (fun h=>?_)
 conv=>whnf
 cases h
 exact hK
 conv=>whnf
 refine YH h ?_
 rintro I0 μ0 ⟨names0,v0,⟨⟩⟩ zs0 h hI0 hR0
 change Y5 list0 names0 v0=some zs0 at h
 unfold Y5 at h
 conv=>whnf
 refine ZG h (fun h=>?_) (fun h=>?_)
 conv=>whnf
 refine vAt h (fun x0 he1a he1b he1x h=>?_)
 conv=>whnf
 refine Ze h (fun isClock0 hb2 h=>?_)
 conv=>whnf
 refine Yc ?_
 refine Qn h (fun h=>?_) (fun h=>?_)
 conv=>whnf
 refine Yk h (fun hp3 h=>?_)
 conv=>whnf
 cases h
 exact ⟨⟨rfl,rfl⟩,hI0 _ rfl⟩
 conv=>whnf
 cases h
 obtain rfl:=hR0 _ rfl
 exact hK
 conv=>whnf
 refine Ze h (fun areNames0 hb4 h=>?_)
 conv=>whnf
 cases h
 obtain rfl:=hR0 _ rfl
 exact hK
theorem w54 (q2:Sq 45 c48) (q0:Sq 46 c52) (q1:Sq 47 c53):Sq 11 c54:=by
 refine Zm ZL (Zg q2 (Zg q0 (Zg q1 Zu))) mixed {draws:=[(4,[0,1,0,7,0,16,0,112,240,496,0,1024,0,7168,15360,31744,65520,131071,262143,524287],.op 0 (.op 2 (.op 4 (.op 5 (.op 6 (.op 7 (.op 8 (.op 9 (.op 10 (.op 11 (.op 12 (.op 13 (.op 14 (.op 15 (.op 16 (.alt 1 (.alt 3 (.op 17 (.alt 18 (.op 19 (.done)) (.done))) (.done)) (.done)))))))))))))))))]} (fn:=Tryz.f11) Tryz.func11 (by kernel_rfl) (by kernel_rfl) ?_
 rintro ⟨s0,from0,to0,⟨⟩⟩ K ⟨r,h,hK⟩
 change Y6 s0 from0 to0=some r at h
 unfold Y6 at h
 conv=>whnf
 refine Ze h (fun edgesOf0 hb0 h=>?_)
 conv=>whnf
 refine Yc ?_
 refine ZG h (fun h=>?_) (fun h=>?_)
 conv=>whnf
 refine ⟨by kernel_rfl,?_⟩
 conv=>whnf
 refine vAt h (fun x0 he1a he1b he1x h=>?_)
 conv=>whnf
 refine vAt h (fun x1 he2a he2b he2x h=>?_)
 conv=>whnf
 refine Ze h (fun setup0 hb3 h=>?_)
 conv=>whnf
 refine Ze h (fun hold0 hb4 h=>?_)
 conv=>whnf
 refine ⟨trivial,?_⟩
 conv=>whnf
 cases h
 exact hK
 conv=>whnf
 cases h
 exact hK
theorem w39 (q0:Sq 159 c29):Sq 190 c39:=by
 refine Zm ZL (Zg q0 Zu) mixed {} (fn:=Tryz.f190) Tryz.func190 (by kernel_rfl) (by kernel_rfl) ?_
 rintro ⟨n0,a0,a1,⟨⟩⟩ K ⟨r,h,hK⟩
 change XH n0 a0 a1=some r at h
 unfold XH at h
 conv=>whnf
 refine Ze h (fun within0 hb0 h=>?_)
 conv=>whnf
 cases h
 exact hK
theorem w53 (q0:Sq 103 c51):Sq 47 c53:=by
 refine Zm ZL (Zg q0 Zu) mixed {loops:=[(0,[.reg 3 (.dat Iq),.reg 17 (.dat Iq),.ent 1 (nat_lit 51) (Dp.ol (2:Go.TypeId) (Dp.flat (Ty.int IntKind.i64)))])],draws:=[(5,[0,0,2,6,0,16,48,126,0,256,768,0,2048,6144,16128,32766,65535,131071],.op 0 (.op 1 (.op 2 (.op 3 (.op 4 (.op 5 (.op 6 (.op 7 (.op 8 (.op 9 (.op 10 (.op 11 (.op 12 (.op 13 (.op 14 (.op 15 (.op 16 (.op 17 (.done)))))))))))))))))))]} (fn:=Tryz.f47) Tryz.func47 (by kernel_rfl) (by kernel_rfl) ?_
 rintro ⟨x0,⟨⟩⟩ K ⟨r,h,hK⟩
 change XI x0=some r at h
 unfold XI at h
 conv=>whnf
 refine Ze h (fun pairs0 hb0 h=>?_)
 conv=>whnf
 intro fp1
 conv=>whnf
 refine YH h ?_
 rintro I2 μ2 ⟨most0,v0,l0,⟨⟩⟩ zs2 h hI2 hR2
 change Xm x0 pairs0 most0 v0 l0=some zs2 at h
 unfold Xm at h
 conv=>whnf
 intro fp3
 conv=>whnf
 refine ZG h (fun h=>?_) (fun h=>?_)
 conv=>whnf
 refine vAt h (fun x1 he4a he4b he4x h=>?_)
 conv=>whnf
 refine ⟨he4a,he4b,Zh he4x ?_⟩
 conv=>whnf
 intro fp5
 conv=>whnf
 refine ⟨by kernel_rfl,?_⟩
 conv=>whnf
 refine vAt h (fun x2 he6a he6b he6x h=>?_)
 conv=>whnf
 refine ⟨by kernel_rfl,?_⟩
 conv=>whnf
 refine ⟨he6a,he6b,Zh he6x ?_⟩
 conv=>whnf
 refine vAt h (fun x3 he7a he7b he7x h=>?_)
 conv=>whnf
 refine ⟨by kernel_rfl,?_⟩
 conv=>whnf
 refine ⟨he7a,he7b,Zh he7x ?_⟩
 conv=>whnf
 refine ⟨trivial,?_⟩
 conv=>whnf
 cases h
 exact ⟨⟨rfl,rfl⟩,hI2 _ rfl⟩
 conv=>whnf
 cases h
 obtain rfl:=hR2 _ rfl
 exact hK
theorem w46:Sq 182 c46:=by
 refine Zm ZL Zu mixed {loops:=[(0,[.reg 0 (.dat Iq),.reg 1 (.dat Iq)])],draws:=[(2,[0,0,0,6,3,31],.op 0 (.op 1 (.op 2 (.op 3 (.op 4 (.op 5 (.done)))))))]} (fn:=Tryz.f182) Tryz.func182 (by kernel_rfl) (by kernel_rfl) ?_
 rintro ⟨a0,b0,⟨⟩⟩ K ⟨r,h,hK⟩
 change ZaL a0 b0=some r at h
 unfold ZaL at h
 conv=>whnf
 refine YH h ?_
 rintro I0 μ0 ⟨a1,b1,⟨⟩⟩ zs0 h hI0 hR0
 change VO a1 b1=some zs0 at h
 unfold VO at h
 conv=>whnf
 refine Yc ?_
 refine ZG h (fun h=>?_) (fun h=>?_)
 conv=>whnf
 cases h
 obtain rfl:=hR0 _ rfl
 exact hK
 conv=>whnf
 refine ⟨by kernel_rfl,?_⟩
 conv=>whnf
 refine Yk h (fun hp1 h=>?_)
 conv=>whnf
 refine ⟨trivial,?_⟩
 conv=>whnf
 cases h
 exact ⟨⟨rfl,rfl⟩,hI0 _ rfl⟩
theorem w33 (q2:Sq 159 c29) (q1:Sq 245 ZaX) (q0:Sq 246 V9):Sq 212 c33:=by
 refine Zm ZL (Zg q2 (Zg q1 (Zg q0 Zu))) mixed {} (fn:=Tryz.f212) Tryz.func212 (by kernel_rfl) (by kernel_rfl) ?_
 rintro ⟨s0,⟨⟩⟩ K ⟨r,h,hK⟩
 change VD s0=some r at h
 unfold VD at h
 conv=>whnf
 refine Ze h (fun within0 hb0 h=>?_)
 conv=>whnf
 refine Qn h (fun h=>?_) (fun h=>?_)
 conv=>whnf
 refine Yk h (fun hp1 h=>?_)
 conv=>whnf
 refine ⟨by decide,?_⟩
 conv=>whnf
 refine ⟨by kernel_rfl,?_⟩
 conv=>whnf
 refine ZG h (fun h=>?_) (fun h=>?_)
 conv=>whnf
 refine vAt h (fun x0 he2a he2b he2x h=>?_)
 conv=>whnf
 cases h
 exact hK
 conv=>whnf
 cases h
 exact hK
 conv=>whnf
 cases h
 exact hK
theorem w38:Sq 110 c38:=by
 refine Zm ZL Zu mixed {} (fn:=Tryz.f110) Tryz.func110 (by kernel_rfl) (by kernel_rfl) ?_
 rintro ⟨list0,⟨⟩⟩ K ⟨r,h,hK⟩
 change Yt list0=some r at h
 unfold Yt at h
 conv=>whnf
 cases h
 exact hK
theorem w49:Sq 226 c49:=by
 refine Zm ZL Zu mixed {} (fn:=Tryz.f226) Tryz.func226 (by kernel_rfl) (by kernel_rfl) ?_
 rintro ⟨a0,b0,⟨⟩⟩ K ⟨r,h,hK⟩
 change VE a0 b0=some r at h
 unfold VE at h
 conv=>whnf
 refine Yk h (fun hp0 h=>?_)
 conv=>whnf
 refine ⟨hp0,?_⟩
 conv=>whnf
 cases h
 exact hK
theorem Zey (rec0:(List Zb)→Int→Option Yo) (hrec:Sq 52 (VJ rec0)):Sq 52 (VJ (Qb rec0)):=by
 refine Zm ZL (Zg hrec Zu) mixed {} (fn:=Tryz.f52) Tryz.func52 (by kernel_rfl) (by kernel_rfl) ?_
 rintro ⟨list0,k0,⟨⟩⟩ K ⟨r,h,hK⟩
 change Qb rec0 list0 k0=some r at h
 unfold Qb at h
 conv=>whnf
 refine vAt h (fun x0 he0a he0b he0x h=>?_)
 conv=>whnf
 refine ZG h (fun h=>?_) (fun h=>?_)
 conv=>whnf
 cases h
 exact hK
 conv=>whnf
 refine Ze h (fun r0 hb1 h=>?_)
 conv=>whnf
 refine ZG h (fun h=>?_) (fun h=>?_)
 conv=>whnf
 refine ⟨by decide,?_⟩
 conv=>whnf
 refine Qn h (fun h=>?_) (fun h=>?_)
 conv=>whnf
 cases h
 exact hK
 conv=>whnf
 cases h
 exact hK
 conv=>whnf
 refine Qn h (fun h=>?_) (fun h=>?_)
 conv=>whnf
 cases h
 exact hK
 conv=>whnf
 cases h
 exact hK
theorem w31:Sq 52 c31:=by
 have hn:∀ n,Sq 52 (VJ (X3 n)):=by
  intro n
  induction n with
  | zero =>
  refine Zm ZL Zu mixed {} (fn:=Tryz.f52) Tryz.func52 (by kernel_rfl) (by kernel_rfl) ?_
  rintro ⟨list0,k0,⟨⟩⟩ K ⟨r,h,hK⟩
  cases h
  | succ n ih=>exact Zey _ ih
 refine ⟨(hn 0).1,?_⟩
 rintro w S vs ⟨list0,k0,⟨⟩⟩ fp K h1 h2 h3 h4 ⟨r,h,hK⟩
 obtain ⟨n,hr⟩:=ZdB h
 exact (hn n).2 w S vs _ fp K h1 h2 h3 h4 ⟨r,hr,hK⟩
theorem w29:Sq 159 c29:=by
 refine Zm ZL Zu mixed {} (fn:=Tryz.f159) Tryz.func159 (by kernel_rfl) (by kernel_rfl) ?_
 rintro ⟨x0,low0,high0,⟨⟩⟩ K ⟨r,h,hK⟩
 change YA x0 low0 high0=some r at h
 unfold YA at h
 conv=>whnf
 refine ZG h (fun h=>?_) (fun h=>?_)
 conv=>whnf
 cases h
 exact hK
 conv=>whnf
 cases h
 exact hK
theorem w63 (q1:Sq 104 c58) (q0:Sq 105 c61) (q2:Sq 106 c24):Sq 49 c63:=by
 refine Zm ZL (Zg q1 (Zg q0 (Zg q2 Zu))) mixed {loops:=[(0,[.reg 15 (.dat Iq),.reg 16 (.dat Iq),.ent 0 (nat_lit 51) (Dp.ol (2:Go.TypeId) (Dp.flat (Ty.int IntKind.i64)))])],draws:=[(6,[0,1,3,7,15,0,32,96,224,480,1023,0,4095,8191],.op 0 (.op 1 (.op 2 (.op 3 (.op 4 (.op 5 (.op 6 (.op 7 (.op 8 (.op 9 (.op 10 (.op 11 (.op 12 (.op 13 (.done))))))))))))))),(10,[0,0,0,6,14,30,62,0,0,384,896,1920,3968,8190,0,32766,65535,131071],.op 0 (.op 1 (.op 2 (.op 3 (.op 4 (.op 5 (.op 6 (.op 7 (.op 8 (.op 9 (.op 10 (.op 11 (.op 12 (.op 13 (.op 14 (.op 15 (.op 16 (.op 17 (.done)))))))))))))))))))]} (fn:=Tryz.f49) Tryz.func49 (by kernel_rfl) (by kernel_rfl) ?_
 rintro ⟨a0,a1,a2,a3,a4,⟨⟩⟩ K ⟨r,h,hK⟩
 change YD a0 a1 a2 a3 a4=some r at h
 unfold YD at h
 conv=>whnf
 refine Ze h (fun l15Code0 hb0 h=>?_)
 conv=>whnf
 refine Yc ?_
 refine ZG h (fun h=>?_) (fun h=>?_)
 conv=>whnf
 refine Ze h (fun l15Pairs0 hb1 h=>?_)
 conv=>whnf
 intro fp2
 conv=>whnf
 refine Ze h (fun l14Of0 hb3 h=>?_)
 conv=>whnf
 refine Ze h (fun l14Of1 hb4 h=>?_)
 conv=>whnf
 refine ⟨by kernel_rfl,?_⟩
 conv=>whnf
 refine vAt h (fun x0 he5a he5b he5x h=>?_)
 conv=>whnf
 refine ⟨he5a,he5b,Zh he5x ?_⟩
 conv=>whnf
 intro fp6
 conv=>whnf
 refine vAt h (fun x1 he7a he7b he7x h=>?_)
 conv=>whnf
 refine ⟨by kernel_rfl,?_⟩
 conv=>whnf
 refine ⟨he7a,he7b,Zh he7x ?_⟩
 conv=>whnf
 refine ⟨he5a,he5b,Zh he5x ?_⟩
 conv=>whnf
 refine .inl ⟨rfl,?_⟩
 conv=>whnf
 refine vAt h (fun x2 he8a he8b he8x h=>?_)
 conv=>whnf
 refine ⟨by kernel_rfl,?_⟩
 conv=>whnf
 refine ⟨he8a,he8b,Zh he8x ?_⟩
 conv=>whnf
 refine ⟨trivial,?_⟩
 conv=>whnf
 refine YH h ?_
 rintro I9 μ9 ⟨v0,v1,l0,⟨⟩⟩ zs9 h hI9 hR9
 change YI l14Of0 l14Of1 v0 v1 l0=some zs9 at h
 unfold YI at h
 conv=>whnf
 intro fp10
 conv=>whnf
 refine ZG h (fun h=>?_) (fun h=>?_)
 conv=>whnf
 refine ⟨by kernel_rfl,?_⟩
 conv=>whnf
 refine vAt h (fun x3 he11a he11b he11x h=>?_)
 conv=>whnf
 refine ⟨he11a,he11b,Zh he11x ?_⟩
 conv=>whnf
 intro fp12
 conv=>whnf
 refine vAt h (fun x4 he13a he13b he13x h=>?_)
 conv=>whnf
 refine ⟨by kernel_rfl,?_⟩
 conv=>whnf
 refine ⟨he13a,he13b,Zh he13x ?_⟩
 conv=>whnf
 refine ⟨he11a,he11b,Zh he11x ?_⟩
 conv=>whnf
 refine .inl ⟨rfl,?_⟩
 conv=>whnf
 refine vAt h (fun x5 he14a he14b he14x h=>?_)
 conv=>whnf
 refine ⟨by kernel_rfl,?_⟩
 conv=>whnf
 refine ⟨he14a,he14b,Zh he14x ?_⟩
 conv=>whnf
 refine ⟨trivial,?_⟩
 conv=>whnf
 cases h
 exact ⟨⟨rfl,rfl⟩,hI9 _ rfl⟩
 conv=>whnf
 cases h
 obtain rfl:=hR9 _ rfl
 exact hK
 conv=>whnf
 cases h
 exact hK
theorem w65 (q0:Sq 107 c64):Sq 50 c65:=by
 refine Zm ZL (Zg q0 Zu) mixed {draws:=[(7,[0,0,3,7,15,0,0,96,224,480,1023,2047,4095],.op 0 (.op 1 (.op 2 (.op 3 (.op 4 (.op 5 (.op 6 (.op 7 (.op 8 (.op 9 (.op 10 (.op 11 (.op 12 (.done))))))))))))))]} (fn:=Tryz.f50) Tryz.func50 (by kernel_rfl) (by kernel_rfl) ?_
 rintro ⟨list0,a0,b0,⟨⟩⟩ K ⟨r,h,hK⟩
 change YN list0 a0 b0=some r at h
 unfold YN at h
 conv=>whnf
 refine Ze h (fun l14Code0 hb0 h=>?_)
 conv=>whnf
 refine Yc ?_
 refine ZG h (fun h=>?_) (fun h=>?_)
 conv=>whnf
 refine Ze h (fun l14Code1 hb1 h=>?_)
 conv=>whnf
 refine Yc ?_
 refine ZG h (fun h=>?_) (fun h=>?_)
 conv=>whnf
 refine ⟨by kernel_rfl,?_⟩
 conv=>whnf
 refine vAt h (fun x0 he2a he2b he2x h=>?_)
 conv=>whnf
 refine vAt h (fun x1 he3a he3b he3x h=>?_)
 conv=>whnf
 refine ⟨trivial,?_⟩
 conv=>whnf
 cases h
 exact hK
 conv=>whnf
 cases h
 exact hK
 conv=>whnf
 cases h
 exact hK
theorem w2:Sq 44 c2:=by
 refine Zm ZL Zu mixed {draws:=[(3,[0,1,3,7,0,16,48,112,240,511],.op 0 (.op 1 (.op 2 (.op 3 (.op 4 (.op 5 (.op 6 (.op 7 (.op 8 (.op 9 (.done))))))))))),(4,[0,1,3,7,0,16,48,112,255,511,1023,2047],.op 0 (.op 1 (.op 2 (.op 3 (.op 4 (.op 5 (.op 6 (.op 7 (.op 8 (.op 9 (.alt 10 (.op 11 (.done)) (.done))))))))))))]} (fn:=Tryz.f44) Tryz.func44 (by kernel_rfl) (by kernel_rfl) ?_
 rintro ⟨a0,a1,⟨⟩⟩ K ⟨r,h,hK⟩
 change Zc a0 a1=some r at h
 unfold Zc at h
 conv=>whnf
 refine ZG h (fun h=>?_) (fun h=>?_)
 conv=>whnf
 cases h
 exact hK
 conv=>whnf
 refine ⟨by kernel_rfl,?_⟩
 conv=>whnf
 refine ⟨trivial,?_⟩
 conv=>whnf
 refine ZG h (fun h=>?_) (fun h=>?_)
 conv=>whnf
 refine ⟨by kernel_rfl,?_⟩
 conv=>whnf
 refine vAt h (fun x0 he0a he0b he0x h=>?_)
 conv=>whnf
 refine ⟨trivial,?_⟩
 conv=>whnf
 refine ZG h (fun h=>?_) (fun h=>?_)
 conv=>whnf
 refine Yk h (fun hp1 h=>?_)
 conv=>whnf
 cases h
 exact hK
 conv=>whnf
 refine ⟨by decide,?_⟩
 conv=>whnf
 refine Yk h (fun hp2 h=>?_)
 conv=>whnf
 cases h
 exact hK
 conv=>whnf
 refine ⟨by decide,?_⟩
 conv=>whnf
 refine ⟨by decide,?_⟩
 conv=>whnf
 refine Yk h (fun hp3 h=>?_)
 conv=>whnf
 cases h
 exact hK
theorem w5 (q0:Sq 319 c4) (q1:Sq 44 c2):Sq 301 c5:=by
 refine Zm ZL (Zg q0 (Zg q1 Zu)) mixed {loops:=[(0,[.reg 7 (.own (.ol 2 (.flat Iq))),.reg 9 (.dat Iq),.cell 1000 0 (.sl (.int .u8)),.cell 1000 1 Iq,.cell 1000 2 Iq])],draws:=[(10,[0,0,0,4,14,30,0,64,254,511,1023],.op 0 (.op 1 (.op 2 (.op 3 (.op 4 (.op 6 (.alt 5 (.alt 7 (.op 8 (.op 9 (.op 10 (.done)))) (.done)) (.alt 7 (.alt 5 (.op 8 (.op 9 (.op 10 (.done)))) (.done)) (.done))))))))),(12,[0,0,0,0,12,30,62,0,128,510,1023,2047],.op 0 (.op 1 (.op 2 (.op 3 (.op 4 (.op 5 (.op 7 (.alt 6 (.alt 8 (.op 9 (.op 10 (.op 11 (.done)))) (.done)) (.alt 8 (.alt 6 (.op 9 (.op 10 (.op 11 (.done)))) (.done)) (.done))))))))))]} (fn:=Tryz.f301) Tryz.func301 (by kernel_rfl) (by kernel_rfl) ?_
 rintro ⟨a0,a1,⟨⟩⟩ K ⟨r,h,hK⟩
 change Qy a0 a1=some r at h
 unfold Qy at h
 conv=>whnf
 refine Ze h (fun l02DrawAxis0 hb0 h=>?_)
 conv=>whnf
 refine Ze h (fun l02DrawAxis1 hb1 h=>?_)
 conv=>whnf
 refine YH h ?_
 rintro I2 μ2 ⟨v0,v1,c0,c1,c2,⟨⟩⟩ zs2 h hI2 hR2
 change Xq a1 l02DrawAxis0 l02DrawAxis1 v0 v1 c0 c1 c2=some zs2 at h
 unfold Xq at h
 conv=>whnf
 refine ZG h (fun h=>?_) (fun h=>?_)
 conv=>whnf
 refine Ze h (fun l01Next0 hb3 h=>?_)
 conv=>whnf
 refine Yk h (fun hp4 h=>?_)
 conv=>whnf
 refine ZG h (fun h=>?_) (fun h=>?_)
 focus
  conv=>whnf
  refine ⟨by kernel_rfl,?_⟩
  conv=>whnf
  refine vAt h (fun x0 he5a he5b he5x h=>?_)
  conv=>whnf
  obtain ⟨l01Next1,hb6,h⟩:=Option.bind_eq_some_iff.1 h
  refine ⟨?_,?_⟩
  rotate_left
  focus
   conv=>whnf
   refine ⟨_,hb6,?_⟩
   conv=>whnf
   refine ⟨by kernel_rfl,?_⟩
   conv=>whnf
   refine ⟨he5a,he5b,Zh he5x ?_⟩
   conv=>whnf
   refine ⟨trivial,?_⟩
  rotate_right
  focus
   conv=>whnf
   refine ⟨by kernel_rfl,?_⟩
   conv=>whnf
   refine ⟨he5a,he5b,Zh he5x ?_⟩
   conv=>whnf
   refine ⟨_,hb6,?_⟩
   conv=>whnf
   refine ⟨trivial,?_⟩
  all_goals
   conv=>whnf
   refine ZG h (fun h=>?_) (fun h=>?_)
   focus
    conv=>whnf
    refine ⟨by kernel_rfl,?_⟩
    conv=>whnf
    refine vAt h (fun x1 he7a he7b he7x h=>?_)
    conv=>whnf
    obtain ⟨l01Next2,hb8,h⟩:=Option.bind_eq_some_iff.1 h
    refine ⟨?_,?_⟩
    rotate_left
    focus
     conv=>whnf
     refine ⟨_,hb8,?_⟩
     conv=>whnf
     refine ⟨by kernel_rfl,?_⟩
     conv=>whnf
     refine ⟨he7a,he7b,Zh he7x ?_⟩
     conv=>whnf
     refine ⟨trivial,?_⟩
    rotate_right
    focus
     conv=>whnf
     refine ⟨by kernel_rfl,?_⟩
     conv=>whnf
     refine ⟨he7a,he7b,Zh he7x ?_⟩
     conv=>whnf
     refine ⟨_,hb8,?_⟩
     conv=>whnf
     refine ⟨trivial,?_⟩
    all_goals
     conv=>whnf
     refine Yk h (fun hp9 h=>?_)
     conv=>whnf
     cases h
     exact ⟨⟨rfl,rfl⟩,hI2 _ rfl⟩
   conv=>whnf
   refine Yk h (fun hp10 h=>?_)
   conv=>whnf
   cases h
   exact ⟨⟨rfl,rfl⟩,hI2 _ rfl⟩
 conv=>whnf
 refine ZG h (fun h=>?_) (fun h=>?_)
 focus
  conv=>whnf
  refine ⟨by kernel_rfl,?_⟩
  conv=>whnf
  refine vAt h (fun x0 he11a he11b he11x h=>?_)
  conv=>whnf
  obtain ⟨l01Next1,hb12,h⟩:=Option.bind_eq_some_iff.1 h
  refine ⟨?_,?_⟩
  rotate_left
  focus
   conv=>whnf
   refine ⟨_,hb12,?_⟩
   conv=>whnf
   refine ⟨by kernel_rfl,?_⟩
   conv=>whnf
   refine ⟨he11a,he11b,Zh he11x ?_⟩
   conv=>whnf
   refine ⟨trivial,?_⟩
  rotate_right
  focus
   conv=>whnf
   refine ⟨by kernel_rfl,?_⟩
   conv=>whnf
   refine ⟨he11a,he11b,Zh he11x ?_⟩
   conv=>whnf
   refine ⟨_,hb12,?_⟩
   conv=>whnf
   refine ⟨trivial,?_⟩
  all_goals
   conv=>whnf
   refine Yk h (fun hp13 h=>?_)
   conv=>whnf
   cases h
   exact ⟨⟨rfl,rfl⟩,hI2 _ rfl⟩
 conv=>whnf
 refine Yk h (fun hp14 h=>?_)
 conv=>whnf
 cases h
 exact ⟨⟨rfl,rfl⟩,hI2 _ rfl⟩
 conv=>whnf
 cases h
 obtain rfl:=hR2 _ rfl
 exact hK
theorem w10 (q1:Sq 238 c8) (q0:Sq 239 c9):Sq 197 c10:=by
 refine Zm VX (Zg q1 (Zg q0 Zu)) mixed {} (fn:=Tryz.f197) Tryz.func197 (by kernel_rfl) (by kernel_rfl) ?_
 rintro ⟨s0,⟨⟩⟩ K ⟨r,h,hK⟩
 change Vf s0=some r at h
 unfold Vf at h
 conv=>whnf
 refine Ze h (fun l03Gate0 hb0 h=>?_)
 conv=>whnf
 intro fp1
 conv=>whnf
 refine Ze h (fun l03Gate1 hb2 h=>?_)
 conv=>whnf
 intro fp3
 conv=>whnf
 refine Ze h (fun l03Gate2 hb4 h=>?_)
 conv=>whnf
 intro fp5
 conv=>whnf
 refine Ze h (fun l03Gate3 hb6 h=>?_)
 conv=>whnf
 intro fp7
 conv=>whnf
 refine Ze h (fun l03Gate4 hb8 h=>?_)
 conv=>whnf
 intro fp9
 conv=>whnf
 refine Ze h (fun l03DrawFlop0 hb10 h=>?_)
 conv=>whnf
 intro fp11
 conv=>whnf
 refine Ze h (fun l03DrawFlop1 hb12 h=>?_)
 conv=>whnf
 intro fp13
 conv=>whnf
 refine Ze h (fun l03DrawFlop2 hb14 h=>?_)
 conv=>whnf
 intro fp15
 conv=>whnf
 intro fp16
 conv=>whnf
 cases h
 exact hK
theorem w7 (q1:Sq 44 c2) (q0:Sq 286 c6):Sq 264 c7:=by
 refine Zm VX (Zg q1 (Zg q0 Zu)) mixed {} (fn:=Tryz.f264) Tryz.func264 (by kernel_rfl) (by kernel_rfl) ?_
 rintro ⟨s0,kind0,from0,to0,sense0,⟨⟩⟩ K ⟨r,h,hK⟩
 change Yf s0 kind0 from0 to0 sense0=some r at h
 unfold Yf at h
 conv=>whnf
 refine ZG h (fun h=>?_) (fun h=>?_)
 conv=>whnf
 refine Ze h (fun l01Next0 hb0 h=>?_)
 conv=>whnf
 refine Ze h (fun l03DrawTables0 hb1 h=>?_)
 conv=>whnf
 intro fp2
 conv=>whnf
 cases h
 exact hK
 conv=>whnf
 refine Ze h (fun l01Next0 hb3 h=>?_)
 conv=>whnf
 refine Ze h (fun l03DrawTables0 hb4 h=>?_)
 conv=>whnf
 intro fp5
 conv=>whnf
 refine Ze h (fun l03DrawTables1 hb6 h=>?_)
 conv=>whnf
 intro fp7
 conv=>whnf
 cases h
 exact hK
theorem w20:Sq 147 c20:=by
 refine Zm ZL Zu mixed {loops:=[(0,[.reg 3 (.dat Iq)])]} (fn:=Tryz.f147) Tryz.func147 (by kernel_rfl) (by kernel_rfl) ?_
 rintro ⟨s0,⟨⟩⟩ K ⟨r,h,hK⟩
 change Vg s0=some r at h
 unfold Vg at h
 conv=>whnf
 refine YH h ?_
 rintro I0 μ0 ⟨i0,⟨⟩⟩ zs0 h hI0 hR0
 change Xu s0 i0=some zs0 at h
 unfold Xu at h
 conv=>whnf
 refine ZG h (fun h=>?_) (fun h=>?_)
 conv=>whnf
 refine vAt h (fun x0 he1a he1b he1x h=>?_)
 conv=>whnf
 refine ZG h (fun h=>?_) (fun h=>?_)
 conv=>whnf
 refine ⟨he1a,he1b,Zh he1x ?_⟩
 conv=>whnf
 refine ⟨he1a,he1b,Zh he1x ?_⟩
 conv=>whnf
 refine ZG h (fun h=>?_) (fun h=>?_)
 conv=>whnf
 refine ⟨he1a,he1b,Zh he1x ?_⟩
 conv=>whnf
 refine Yc ?_
 refine ZG h (fun h=>?_) (fun h=>?_)
 conv=>whnf
 cases h
 exact ⟨⟨rfl,rfl⟩,hI0 _ rfl⟩
 conv=>whnf
 refine ZG h (fun h=>?_) (fun h=>?_)
 conv=>whnf
 refine Yc ?_
 refine ZG h (fun h=>?_) (fun h=>?_)
 conv=>whnf
 cases h
 exact ⟨⟨rfl,rfl⟩,hI0 _ rfl⟩
 conv=>whnf
 cases h
 obtain rfl:=hR0 _ rfl
 exact hK
 conv=>whnf
 cases h
 obtain rfl:=hR0 _ rfl
 exact hK
 conv=>whnf
 refine Yc ?_
 refine ZG h (fun h=>?_) (fun h=>?_)
 conv=>whnf
 cases h
 exact ⟨⟨rfl,rfl⟩,hI0 _ rfl⟩
 conv=>whnf
 cases h
 obtain rfl:=hR0 _ rfl
 exact hK
 conv=>whnf
 refine ⟨he1a,he1b,Zh he1x ?_⟩
 conv=>whnf
 refine ZG h (fun h=>?_) (fun h=>?_)
 conv=>whnf
 refine ⟨he1a,he1b,Zh he1x ?_⟩
 conv=>whnf
 refine ZG h (fun h=>?_) (fun h=>?_)
 conv=>whnf
 refine Yc ?_
 refine ZG h (fun h=>?_) (fun h=>?_)
 conv=>whnf
 cases h
 exact ⟨⟨rfl,rfl⟩,hI0 _ rfl⟩
 conv=>whnf
 cases h
 obtain rfl:=hR0 _ rfl
 exact hK
 conv=>whnf
 cases h
 obtain rfl:=hR0 _ rfl
 exact hK
 conv=>whnf
 cases h
 obtain rfl:=hR0 _ rfl
 exact hK
 conv=>whnf
 refine ZG h (fun h=>?_) (fun h=>?_)
 conv=>whnf
 cases h
 obtain rfl:=hR0 _ rfl
 exact hK
 conv=>whnf
 cases h
 obtain rfl:=hR0 _ rfl
 exact hK
theorem w3:Sq 263 c3:=by
 refine Zm ZL Zu mixed {loops:=[(0,[.reg 5 (.dat (.bool)),.reg 6 (.dat (.bool)),.reg 8 (.dat Iq)])],draws:=[(7,[0,1,3,7,3,31,63,3,131,3,3,1539,3971,8067,16383,32767,65535],.op 0 (.op 1 (.op 2 (.op 3 (.op 4 (.op 5 (.op 6 (.op 7 (.op 8 (.op 9 (.op 10 (.op 11 (.op 12 (.op 13 (.op 14 (.op 15 (.op 16 (.done)))))))))))))))))),(8,[0,1,3,7,3,31,63,3,131,3,3,1539,3971,8067,16383,32767,65535],.op 0 (.op 1 (.op 2 (.op 3 (.op 4 (.op 5 (.op 6 (.op 7 (.op 8 (.op 9 (.op 10 (.op 11 (.op 12 (.op 13 (.op 14 (.op 15 (.op 16 (.done))))))))))))))))))]} (fn:=Tryz.f263) Tryz.func263 (by kernel_rfl) (by kernel_rfl) ?_
 rintro ⟨c0,pin0,⟨⟩⟩ K ⟨r,h,hK⟩
 change X5 c0 pin0=some r at h
 unfold X5 at h
 conv=>whnf
 refine Yk h (fun hp0 h=>?_)
 conv=>whnf
 refine YH h ?_
 rintro I1 μ1 ⟨raises0,lowers0,i0,⟨⟩⟩ zs1 h hI1 hR1
 change Xb c0 pin0 raises0 lowers0 i0=some zs1 at h
 unfold Xb at h
 conv=>whnf
 refine ZG h (fun h=>?_) (fun h=>?_)
 conv=>whnf
 refine Yc ?_
 refine ZG h (fun h=>?_) (fun h=>?_)
 conv=>whnf
 refine ⟨by kernel_rfl,?_⟩
 conv=>whnf
 refine Zmk h (fun h=>?_) (fun h=>?_)
 conv=>whnf
 refine ⟨trivial,?_⟩
 conv=>whnf
 refine ⟨by kernel_rfl,?_⟩
 conv=>whnf
 refine Zmk h (fun h=>?_) (fun h=>?_)
 conv=>whnf
 refine ⟨trivial,?_⟩
 conv=>whnf
 cases h
 exact ⟨⟨rfl,rfl⟩,hI1 _ rfl⟩
 conv=>whnf
 refine vAt h (fun x0 he2a he2b he2x h=>?_)
 conv=>whnf
 refine vAt h (fun x1 he3a he3b he3x h=>?_)
 conv=>whnf
 refine ⟨trivial,?_⟩
 conv=>whnf
 cases h
 exact ⟨⟨rfl,rfl⟩,hI1 _ rfl⟩
 conv=>whnf
 refine vAt h (fun x0 he4a he4b he4x h=>?_)
 conv=>whnf
 refine vAt h (fun x1 he5a he5b he5x h=>?_)
 conv=>whnf
 refine ⟨trivial,?_⟩
 conv=>whnf
 refine ⟨by kernel_rfl,?_⟩
 conv=>whnf
 refine Zmk h (fun h=>?_) (fun h=>?_)
 conv=>whnf
 refine ⟨trivial,?_⟩
 conv=>whnf
 cases h
 exact ⟨⟨rfl,rfl⟩,hI1 _ rfl⟩
 conv=>whnf
 refine ⟨he4a,he4b,Zh he4x ?_⟩
 conv=>whnf
 refine ⟨he5a,he5b,Zh he5x ?_⟩
 conv=>whnf
 refine ⟨trivial,?_⟩
 conv=>whnf
 cases h
 exact ⟨⟨rfl,rfl⟩,hI1 _ rfl⟩
 conv=>whnf
 cases h
 exact ⟨⟨rfl,rfl⟩,hI1 _ rfl⟩
 conv=>whnf
 refine Qn h (fun h=>?_) (fun h=>?_)
 conv=>whnf
 refine Qn h (fun h=>?_) (fun h=>?_)
 conv=>whnf
 cases h
 obtain rfl:=hR1 _ rfl
 exact hK
 conv=>whnf
 refine Qn h (fun h=>?_) (fun h=>?_)
 conv=>whnf
 cases h
 obtain rfl:=hR1 _ rfl
 exact hK
 conv=>whnf
 refine Qn h (fun h=>?_) (fun h=>?_)
 conv=>whnf
 cases h
 obtain rfl:=hR1 _ rfl
 exact hK
 conv=>whnf
 cases h
 obtain rfl:=hR1 _ rfl
 exact hK
 conv=>whnf
 refine Qn h (fun h=>?_) (fun h=>?_)
 conv=>whnf
 cases h
 obtain rfl:=hR1 _ rfl
 exact hK
 conv=>whnf
 refine Qn h (fun h=>?_) (fun h=>?_)
 conv=>whnf
 cases h
 obtain rfl:=hR1 _ rfl
 exact hK
 conv=>whnf
 cases h
 obtain rfl:=hR1 _ rfl
 exact hK
theorem w12 (q1:Sq 44 c2) (q0:Sq 163 c11):Sq 198 c12:=by
 refine Zm VX (Zg q1 (Zg q0 Zu)) mixed {loops:=[(0,[.reg 9 (.own (.ol 193 (Zbr))),.reg 10 (.own (.ol 9 (.flat (.str)))),.reg 11 (.dat Iq),.cell 1000 0 (.sl (.int .u8)),.cell 1000 1 Iq,.cell 1000 2 Iq]),(2,[.reg 14 (.dat Iq),.cell 1000 0 (.sl (.int .u8)),.cell 1000 1 Iq,.cell 1000 2 Iq,.cello 1013 2 (.ol 2 (.flat Iq))]),(4,[.reg 16 (.dat Iq),.cell 1000 0 (.sl (.int .u8)),.cell 1000 1 Iq,.cell 1000 2 Iq,.ent 9 (nat_lit 193) (Dp.pair (Dp.flat Ty.str) (Dp.pair (Dp.flat (Ty.int IntKind.i64)) (Dp.pair (Dp.ol (2:Go.TypeId) (Dp.flat (Ty.int IntKind.i64))) (Dp.flat Ty.unit))))])],draws:=[(27,[0,0,3,7,15,0,0,64,192,480,992,2047,4095],.op 0 (.op 1 (.op 2 (.op 3 (.op 5 (.op 6 (.op 7 (.op 8 (.alt 4 (.alt 9 (.op 10 (.op 11 (.alt 12 (.done) (.done)))) (.done)) (.alt 9 (.op 10 (.alt 4 (.op 11 (.alt 12 (.done) (.done))) (.done))) (.done)))))))))))]} (fn:=Tryz.f198) Tryz.func198 (by kernel_rfl) (by kernel_rfl) ?_
 rintro ⟨a0,a1,a2,⟨⟩⟩ K ⟨r,h,hK⟩
 change Vh a0 a1 a2=some r at h
 unfold Vh at h
 conv=>whnf
 intro fp0
 conv=>whnf
 refine ⟨by decide,?_⟩
 conv=>whnf
 refine Ze h (fun l01Next0 hb1 h=>?_)
 conv=>whnf
 refine YH h ?_
 rintro I2 μ2 ⟨v0,v1,v2,c0,c1,c2,⟨⟩⟩ zs2 h hI2 hR2
 change Xx a2 v0 v1 v2 c0 c1 c2=some zs2 at h
 unfold Xx at h
 conv=>whnf
 intro fp3
 conv=>whnf
 refine ZG h (fun h=>?_) (fun h=>?_)
 conv=>whnf
 refine Ze h (fun l01Next1 hb4 h=>?_)
 conv=>whnf
 refine vAt h (fun x0 he5a he5b he5x h=>?_)
 conv=>whnf
 refine ⟨by kernel_rfl,?_⟩
 conv=>whnf
 refine ⟨he5a,he5b,Zh he5x ?_⟩
 conv=>whnf
 refine Ze h (fun l01Number0 hb6 h=>?_)
 conv=>whnf
 refine Yk h (fun hp7 h=>?_)
 conv=>whnf
 refine YH h ?_
 rintro I8 μ8 ⟨v3,c3,c4,c5,c6,⟨⟩⟩ zs8 h hI8 hR8
 change Xv v0 v1 v2 x0 l01Number0 v3 c3 c4 c5 c6=some zs8 at h
 unfold Xv at h
 conv=>whnf
 refine vAt h (fun x1 he9a he9b he9x h=>?_)
 conv=>whnf
 refine ⟨by kernel_rfl,?_⟩
 conv=>whnf
 refine ⟨he9a,he9b,Zh he9x ?_⟩
 conv=>whnf
 refine ZG h (fun h=>?_) (fun h=>?_)
 conv=>whnf
 refine Ze h (fun l01Next2 hb10 h=>?_)
 conv=>whnf
 refine Ze h (fun l01Next3 hb11 h=>?_)
 conv=>whnf
 refine ZG h (fun h=>?_) (fun h=>?_)
 conv=>whnf
 refine ZG h (fun h=>?_) (fun h=>?_)
 conv=>whnf
 refine ZG h (fun h=>?_) (fun h=>?_)
 conv=>whnf
 refine Yk h (fun hp12 h=>?_)
 conv=>whnf
 refine Yk h (fun hp13 h=>?_)
 conv=>whnf
 cases h
 exact ⟨⟨rfl,rfl⟩,hI8 _ rfl⟩
 conv=>whnf
 refine Yk h (fun hp14 h=>?_)
 conv=>whnf
 refine Yk h (fun hp15 h=>?_)
 conv=>whnf
 cases h
 exact ⟨⟨rfl,rfl⟩,hI8 _ rfl⟩
 conv=>whnf
 refine Yk h (fun hp16 h=>?_)
 conv=>whnf
 refine Yk h (fun hp17 h=>?_)
 conv=>whnf
 cases h
 exact ⟨⟨rfl,rfl⟩,hI8 _ rfl⟩
 conv=>whnf
 refine ZG h (fun h=>?_) (fun h=>?_)
 conv=>whnf
 refine ZG h (fun h=>?_) (fun h=>?_)
 conv=>whnf
 refine Yk h (fun hp18 h=>?_)
 conv=>whnf
 refine Yk h (fun hp19 h=>?_)
 conv=>whnf
 cases h
 exact ⟨⟨rfl,rfl⟩,hI8 _ rfl⟩
 conv=>whnf
 refine Yk h (fun hp20 h=>?_)
 conv=>whnf
 refine Yk h (fun hp21 h=>?_)
 conv=>whnf
 cases h
 exact ⟨⟨rfl,rfl⟩,hI8 _ rfl⟩
 conv=>whnf
 refine Yk h (fun hp22 h=>?_)
 conv=>whnf
 refine Yk h (fun hp23 h=>?_)
 conv=>whnf
 cases h
 exact ⟨⟨rfl,rfl⟩,hI8 _ rfl⟩
 conv=>whnf
 refine Yk h (fun hp24 h=>?_)
 conv=>whnf
 refine Yk h (fun hp25 h=>?_)
 conv=>whnf
 refine Ze h (fun l01Number1 hb26 h=>?_)
 conv=>whnf
 refine Yk h (fun hp27 h=>?_)
 conv=>whnf
 refine Yk h (fun hp28 h=>?_)
 conv=>whnf
 intro fp29
 conv=>whnf
 refine Yk h (fun hp30 h=>?_)
 conv=>whnf
 intro fp31
 conv=>whnf
 cases h
 obtain rfl:=hR8 _ rfl
 exact ⟨⟨rfl,rfl⟩,hI2 _ rfl⟩
 conv=>whnf
 refine YH h ?_
 rintro I32 μ32 ⟨v3,c3,c4,c5,l0,⟨⟩⟩ zs32 h hI32 hR32
 change Xw a2 v1 v3 c3 c4 c5 l0=some zs32 at h
 unfold Xw at h
 conv=>whnf
 intro fp33
 conv=>whnf
 refine ZG h (fun h=>?_) (fun h=>?_)
 conv=>whnf
 refine Ze h (fun l01Next1 hb34 h=>?_)
 conv=>whnf
 refine ZG h (fun h=>?_) (fun h=>?_)
 conv=>whnf
 refine vAt h (fun x0 he35a he35b he35x h=>?_)
 conv=>whnf
 refine ⟨he35a,he35b,Zh he35x ?_⟩
 conv=>whnf
 intro fp36
 conv=>whnf
 refine ZcV h (fun h=>?_) (fun h=>?_)
 focus
  conv=>whnf
  refine ⟨by kernel_rfl,?_⟩
  conv=>whnf
  refine ⟨he35a,he35b,Zh he35x ?_⟩
  conv=>whnf
  obtain ⟨l01Next2,hb37,h⟩:=Option.bind_eq_some_iff.1 h
  obtain ⟨x1,he38a,he38b,he38x,h⟩:=atE h
  refine ⟨?_,?_⟩
  rotate_left
  focus
   conv=>whnf
   refine ⟨_,hb37,?_⟩
   conv=>whnf
   refine .inl ⟨rfl,?_⟩
   conv=>whnf
   refine ⟨he38a,he38b,Zh he38x ?_⟩
   conv=>whnf
   refine ⟨by kernel_rfl,?_⟩
   conv=>whnf
   refine ⟨by decide,?_⟩
   conv=>whnf
   refine ⟨he38a,he38b,Zh he38x ?_⟩
   conv=>whnf
   refine ⟨trivial,?_⟩
  rotate_right
  focus
   conv=>whnf
   refine .inl ⟨rfl,?_⟩
   conv=>whnf
   refine ⟨_,hb37,?_⟩
   conv=>whnf
   refine ⟨he38a,he38b,Zh he38x ?_⟩
   conv=>whnf
   refine ⟨by kernel_rfl,?_⟩
   conv=>whnf
   refine ⟨by decide,?_⟩
   conv=>whnf
   refine ⟨he38a,he38b,Zh he38x ?_⟩
   conv=>whnf
   refine ⟨trivial,?_⟩
  all_goals
   conv=>whnf
   cases h
   exact ⟨⟨rfl,rfl⟩,hI32 _ rfl⟩
 conv=>whnf
 refine ⟨he35a,he35b,Zh he35x ?_⟩
 conv=>whnf
 refine .inl ⟨rfl,?_⟩
 conv=>whnf
 refine ZcV h (fun h=>?_) (fun h=>?_)
 focus
  conv=>whnf
  refine ⟨by kernel_rfl,?_⟩
  conv=>whnf
  refine ⟨he35a,he35b,Zh he35x ?_⟩
  conv=>whnf
  obtain ⟨l01Next2,hb39,h⟩:=Option.bind_eq_some_iff.1 h
  obtain ⟨x1,he40a,he40b,he40x,h⟩:=atE h
  refine ⟨?_,?_⟩
  rotate_left
  focus
   conv=>whnf
   refine ⟨_,hb39,?_⟩
   conv=>whnf
   refine .inl ⟨rfl,?_⟩
   conv=>whnf
   refine ⟨he40a,he40b,Zh he40x ?_⟩
   conv=>whnf
   refine ⟨by kernel_rfl,?_⟩
   conv=>whnf
   refine ⟨by decide,?_⟩
   conv=>whnf
   refine ⟨he40a,he40b,Zh he40x ?_⟩
   conv=>whnf
   refine ⟨trivial,?_⟩
  rotate_right
  focus
   conv=>whnf
   refine .inl ⟨rfl,?_⟩
   conv=>whnf
   refine ⟨_,hb39,?_⟩
   conv=>whnf
   refine ⟨he40a,he40b,Zh he40x ?_⟩
   conv=>whnf
   refine ⟨by kernel_rfl,?_⟩
   conv=>whnf
   refine ⟨by decide,?_⟩
   conv=>whnf
   refine ⟨he40a,he40b,Zh he40x ?_⟩
   conv=>whnf
   refine ⟨trivial,?_⟩
  all_goals
   conv=>whnf
   cases h
   exact ⟨⟨rfl,rfl⟩,hI32 _ rfl⟩
 conv=>whnf
 refine Qn h (fun h=>?_) (fun h=>?_)
 focus
  conv=>whnf
  refine ⟨by kernel_rfl,?_⟩
  conv=>whnf
  refine ⟨he35a,he35b,Zh he35x ?_⟩
  conv=>whnf
  obtain ⟨l01Next2,hb41,h⟩:=Option.bind_eq_some_iff.1 h
  obtain ⟨x1,he42a,he42b,he42x,h⟩:=atE h
  refine ⟨?_,?_⟩
  rotate_left
  focus
   conv=>whnf
   refine ⟨_,hb41,?_⟩
   conv=>whnf
   refine .inl ⟨rfl,?_⟩
   conv=>whnf
   refine ⟨he42a,he42b,Zh he42x ?_⟩
   conv=>whnf
   refine ⟨by kernel_rfl,?_⟩
   conv=>whnf
   refine ⟨by decide,?_⟩
   conv=>whnf
   refine ⟨he42a,he42b,Zh he42x ?_⟩
   conv=>whnf
   refine ⟨trivial,?_⟩
  rotate_right
  focus
   conv=>whnf
   refine .inl ⟨rfl,?_⟩
   conv=>whnf
   refine ⟨_,hb41,?_⟩
   conv=>whnf
   refine ⟨he42a,he42b,Zh he42x ?_⟩
   conv=>whnf
   refine ⟨by kernel_rfl,?_⟩
   conv=>whnf
   refine ⟨by decide,?_⟩
   conv=>whnf
   refine ⟨he42a,he42b,Zh he42x ?_⟩
   conv=>whnf
   refine ⟨trivial,?_⟩
  all_goals
   conv=>whnf
   cases h
   exact ⟨⟨rfl,rfl⟩,hI32 _ rfl⟩
 conv=>whnf
 cases h
 exact ⟨⟨rfl,rfl⟩,hI32 _ rfl⟩
 conv=>whnf
 cases h
 exact ⟨⟨rfl,rfl⟩,hI32 _ rfl⟩
 conv=>whnf
 refine ⟨by decide,?_⟩
 conv=>whnf
 refine Yk h (fun hp43 h=>?_)
 conv=>whnf
 refine Ze h (fun l01Next1 hb44 h=>?_)
 conv=>whnf
 refine ZG h (fun h=>?_) (fun h=>?_)
 conv=>whnf
 refine Ze h (fun l01Next2 hb45 h=>?_)
 conv=>whnf
 refine Yk h (fun hp46 h=>?_)
 conv=>whnf
 cases h
 obtain rfl:=hR32 _ rfl
 obtain rfl:=hR2 _ rfl
 exact hK
 conv=>whnf
 cases h
 obtain rfl:=hR32 _ rfl
 obtain rfl:=hR2 _ rfl
 exact hK
theorem w13:Sq 96 c13:=by
 refine Zm ZL Zu mixed {loops:=[(0,[.reg 3 (.own (.ol 227 (.flat (JJ)))),.reg 4 (.dat Iq)]),(2,[.reg 3 (.own (.ol 227 (.flat (JJ)))),.reg 6 (.dat Iq)]),(4,[.reg 3 (.own (.ol 227 (.flat (JJ)))),.reg 7 (.dat Iq)])],draws:=[(13,[0,0,0,4,0,28,60,124,0,256,0,1792,3840,7936,16128,32766,65534,131071,262143],.op 0 (.op 1 (.op 2 (.op 3 (.op 4 (.op 5 (.op 6 (.op 7 (.op 8 (.op 9 (.op 10 (.op 11 (.op 12 (.op 13 (.op 14 (.op 15 (.alt 16 (.alt 17 (.op 18 (.done)) (.done)) (.done))))))))))))))))))]} (fn:=Tryz.f96) Tryz.func96 (by kernel_rfl) (by kernel_rfl) ?_
 rintro ⟨a0,⟨⟩⟩ K ⟨r,h,hK⟩
 change YJ a0=some r at h
 unfold YJ at h
 conv=>whnf
 refine YH h ?_
 rintro I0 μ0 ⟨v0,v1,⟨⟩⟩ zs0 h hI0 hR0
 change YZ a0 v0 v1=some zs0 at h
 unfold YZ at h
 conv=>whnf
 refine ZG h (fun h=>?_) (fun h=>?_)
 conv=>whnf
 refine vAt h (fun x0 he1a he1b he1x h=>?_)
 conv=>whnf
 refine YH h ?_
 rintro I2 μ2 ⟨v2,v3,⟨⟩⟩ zs2 h hI2 hR2
 change YW v1 x0 v2 v3=some zs2 at h
 unfold YW at h
 conv=>whnf
 refine ZG h (fun h=>?_) (fun h=>?_)
 conv=>whnf
 refine vAt h (fun x1 he3a he3b he3x h=>?_)
 conv=>whnf
 refine Yk h (fun hp4 h=>?_)
 conv=>whnf
 cases h
 exact ⟨⟨rfl,rfl⟩,hI2 _ rfl⟩
 conv=>whnf
 cases h
 obtain rfl:=hR2 _ rfl
 exact ⟨⟨rfl,rfl⟩,hI0 _ rfl⟩
 conv=>whnf
 refine YH h ?_
 rintro I5 μ5 ⟨v2,v3,⟨⟩⟩ zs5 h hI5 hR5
 change YX a0 v2 v3=some zs5 at h
 unfold YX at h
 conv=>whnf
 refine ZG h (fun h=>?_) (fun h=>?_)
 conv=>whnf
 refine ⟨by kernel_rfl,?_⟩
 conv=>whnf
 refine vAt h (fun x0 he6a he6b he6x h=>?_)
 conv=>whnf
 refine ⟨he6a,he6b,Zh he6x ?_⟩
 conv=>whnf
 refine Yk h (fun hp7 h=>?_)
 conv=>whnf
 refine ⟨trivial,?_⟩
 conv=>whnf
 cases h
 exact ⟨⟨rfl,rfl⟩,hI5 _ rfl⟩
 conv=>whnf
 cases h
 obtain rfl:=hR5 _ rfl
 obtain rfl:=hR0 _ rfl
 exact hK
theorem w64 (q0:Sq 181 c25) (q1:Sq 114 c21):Sq 107 c64:=by
 refine Zm ZL (Zg q0 (Zg q1 Zu)) mixed {} (fn:=Tryz.f107) Tryz.func107 (by kernel_rfl) (by kernel_rfl) ?_
 rintro ⟨list0,k0,⟨⟩⟩ K ⟨r,h,hK⟩
 change QA list0 k0=some r at h
 unfold QA at h
 conv=>whnf
 refine Ze h (fun IsClocks0 hb0 h=>?_)
 conv=>whnf
 refine Yc ?_
 refine Qn h (fun h=>?_) (fun h=>?_)
 conv=>whnf
 refine Ze h (fun l01In0 hb1 h=>?_)
 conv=>whnf
 refine Yc ?_
 refine Qn h (fun h=>?_) (fun h=>?_)
 conv=>whnf
 cases h
 exact hK
 conv=>whnf
 cases h
 exact hK
 conv=>whnf
 cases h
 exact hK
theorem w56:Sq 227 c56:=by
 refine Zm ZL Zu mixed {loops:=[(0,[.reg 0 (.dat Iq),.reg 1 (.dat Iq)])]} (fn:=Tryz.f227) Tryz.func227 (by kernel_rfl) (by kernel_rfl) ?_
 rintro ⟨a0,b0,⟨⟩⟩ K ⟨r,h,hK⟩
 change VI a0 b0=some r at h
 unfold VI at h
 conv=>whnf
 refine YH h ?_
 rintro I0 μ0 ⟨a1,b1,⟨⟩⟩ zs0 h hI0 hR0
 change QU a1 b1=some zs0 at h
 unfold QU at h
 conv=>whnf
 refine ZG h (fun h=>?_) (fun h=>?_)
 conv=>whnf
 refine Yk h (fun hp1 h=>?_)
 conv=>whnf
 cases h
 exact ⟨⟨rfl,rfl⟩,hI0 _ rfl⟩
 conv=>whnf
 cases h
 obtain rfl:=hR0 _ rfl
 exact hK
theorem w57 (q1:Sq 106 c24) (q0:Sq 227 c56):Sq 185 c57:=by
 refine Zm ZL (Zg q1 (Zg q0 Zu)) mixed {} (fn:=Tryz.f185) Tryz.func185 (by kernel_rfl) (by kernel_rfl) ?_
 rintro ⟨list0,a0,b0,⟨⟩⟩ K ⟨r,h,hK⟩
 change X7 list0 a0 b0=some r at h
 unfold X7 at h
 conv=>whnf
 refine Ze h (fun l14Of0 hb0 h=>?_)
 conv=>whnf
 refine Ze h (fun l14Of1 hb1 h=>?_)
 conv=>whnf
 refine Ze h (fun l14Gcd0 hb2 h=>?_)
 conv=>whnf
 refine Yk h (fun hp3 h=>?_)
 conv=>whnf
 cases h
 exact hK
end Go.Proofs.YtnnbgbgapogckaaGreatDoor
