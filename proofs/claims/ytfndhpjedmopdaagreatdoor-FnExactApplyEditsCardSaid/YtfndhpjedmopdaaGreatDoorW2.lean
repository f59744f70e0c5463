/-
  The functions keep their contracts, if what they call does. Printed by program.
-/
import Derived.Test.YtfndhpjedmopdaaGreatDoorM
import Derived.KernelRfl
namespace Go.Proofs.YtfndhpjedmopdaaGreatDoor
open Go Go.Sx
set_option maxRecDepth 100000
set_option maxHeartbeats 3200000
set_option linter.unusedVariables false
set_option linter.unusedSimpArgs false
theorem ZCs (q1:Zc Tryz.prog 164 Zwl) (q2:Zc Tryz.prog 119 c138) (q3:Zc Tryz.prog 192 Zwf) (q0:Zc Tryz.prog 191 Zzh) (q5:Zc Tryz.prog 166 ZwA) (q4:Zc Tryz.prog 167 c173):Zc Tryz.prog 165 Zzb:=by
 refine Zg YQ (Ze q1 (Ze q2 (Ze q3 (Ze q0 (Ze q5 (Ze q4 Zj)))))) mixed {draws:=[(2,[0,1,3,7,15,0,32,127,255,0,1023],.op 0 (.op 1 (.op 2 (.op 3 (.op 5 (.op 6 (.alt 4 (.op 7 (.op 8 (.alt 9 (.alt 10 (.done) (.done)) (.done)))) (.alt 9 (.alt 4 (.op 7 (.op 8 (.alt 10 (.done) (.done)))) (.done)) (.done))))))))),(4,[0,1,3,7,15,31,0,64,192,448,960,2047,4095,8191],.op 0 (.op 1 (.op 2 (.op 3 (.op 4 (.op 6 (.op 7 (.op 8 (.op 9 (.op 10 (.alt 5 (.alt 11 (.op 12 (.op 13 (.done))) (.done)) (.done)))))))))))),(5,[0,0,2,6,14,30,0,64,0,256,0,1024,0,7168,16320,32704,65534,131071,262143,524287,1048575],.op 0 (.op 1 (.op 2 (.op 3 (.op 4 (.op 5 (.op 6 (.op 7 (.op 8 (.op 9 (.op 10 (.op 11 (.op 12 (.alt 13 (.op 14 (.alt 15 (.alt 16 (.op 17 (.op 18 (.op 19 (.alt 20 (.done) (.done))))) (.done)) (.done))) (.done))))))))))))))),(6,[0,0,2,6,14,30,0,64,192,510,1023,2047,4095,8191],.op 0 (.op 1 (.op 2 (.op 3 (.op 4 (.op 5 (.op 6 (.op 7 (.alt 8 (.alt 9 (.op 10 (.op 11 (.op 12 (.alt 13 (.done) (.done))))) (.done)) (.done))))))))))]} (fn:=Tryz.f165) Tryz.func165 (by kernel_rfl) (by kernel_rfl) ?_
 rintro ⟨a0,a1,⟨⟩⟩ K ⟨r,h,hK⟩
 change JI a0 a1=some r at h
 unfold JI at h
 focus
  conv=>whnf
  intro fp0
  conv=>whnf
  intro fp1
  conv=>whnf
  intro fp2
  conv=>whnf
  refine Zk h (fun nodesOf0 hb3 h=>?_)
  conv=>whnf
  refine ⟨by kernel_rfl,?_⟩
  conv=>whnf
  obtain ⟨places0,hb4,h⟩:=Option.bind_eq_some_iff.1 h
  obtain ⟨x0,he5a,he5b,he5x,h⟩:=atE h
  refine ⟨?_,?_⟩
  rotate_left
  focus
   conv=>whnf
   refine ⟨_,hb4,?_⟩
   conv=>whnf
   refine ⟨he5a,he5b,Zo he5x ?_⟩
   conv=>whnf
   refine ⟨by kernel_rfl,?_⟩
   conv=>whnf
   refine ⟨he5a,he5b,Zo he5x ?_⟩
   conv=>whnf
   refine ⟨trivial,?_⟩
  rotate_right
  focus
   conv=>whnf
   refine ⟨_,hb4,?_⟩
   conv=>whnf
   refine ⟨he5a,he5b,Zo he5x ?_⟩
   conv=>whnf
   refine ⟨by kernel_rfl,?_⟩
   conv=>whnf
   refine ⟨he5a,he5b,Zo he5x ?_⟩
   conv=>whnf
   refine ⟨trivial,?_⟩
  all_goals
   conv=>whnf
   refine ⟨by kernel_rfl,?_⟩
   conv=>whnf
   refine Zk h (fun string0 hb6 h=>?_)
   conv=>whnf
   refine Zk h (fun Instance0 hb7 h=>?_)
   conv=>whnf
   refine ⟨trivial,?_⟩
   conv=>whnf
   refine ⟨by kernel_rfl,?_⟩
   conv=>whnf
   intro fp8
   conv=>whnf
   refine QJ h (fun hp9 h=>?_)
   conv=>whnf
   intro fp10
   conv=>whnf
   refine ⟨trivial,?_⟩
   conv=>whnf
   refine ⟨by kernel_rfl,?_⟩
   conv=>whnf
   refine QJ h (fun hp11 h=>?_)
   conv=>whnf
   refine ⟨trivial,?_⟩
   conv=>whnf
   intro fp12
   conv=>whnf
   refine QJ h (fun hp13 h=>?_)
   conv=>whnf
   intro fp14
   conv=>whnf
   refine Zk h (fun setNet0 hb15 h=>?_)
   conv=>whnf
   intro fp16
   conv=>whnf
   intro fp17
   conv=>whnf
   intro fp18
   conv=>whnf
   refine Zk h (fun connect0 hb19 h=>?_)
   conv=>whnf
   intro fp20
   conv=>whnf
   intro fp21
   conv=>whnf
   intro fp22
   conv=>whnf
   cases h
   exact hK
theorem ZDc (q0:Zc Tryz.prog 119 c138):Zc Tryz.prog 164 Zwl:=by
 refine Zg Zq (Ze q0 Zj) mixed {loops:=[(0,[.reg 16 (.dat (.int .i64)),.entm 1 (ZpH.ty) (ZpH.ety),.ent 2 (nat_lit 3) (.flat Zqd.ety)])],draws:=[(7,[0,0,2,0,8,30,0,64,0,256,960,1984,4032,0,0,16384,57344,122880,262080,524224,1048575],.op 0 (.op 1 (.op 2 (.op 3 (.op 4 (.op 5 (.op 6 (.op 7 (.op 8 (.op 9 (.op 10 (.op 11 (.op 12 (.op 13 (.op 14 (.op 15 (.op 16 (.op 17 (.op 18 (.op 19 (.alt 20 (.done) (.done))))))))))))))))))))))]} (fn:=Tryz.f164) Tryz.func164 (by kernel_rfl) (by kernel_rfl) ?_
 rintro ⟨b0,⟨⟩⟩ K ⟨r,h,hK⟩
 change Xk b0=some r at h
 unfold Xk at h
 conv=>whnf
 refine QJ h (fun hp0 h=>?_)
 conv=>whnf
 refine QJ h (fun hp1 h=>?_)
 conv=>whnf
 refine QJ h (fun hp2 h=>?_)
 conv=>whnf
 refine QJ h (fun hp3 h=>?_)
 conv=>whnf
 refine Zk h (fun places0 hb4 h=>?_)
 conv=>whnf
 refine Yk h ?_
 rintro I5 μ5 ⟨v0,m0,l0,⟨⟩⟩ zs5 h hI5 hR5
 change Qx b0 places0 v0 m0 l0=some zs5 at h
 unfold Qx at h
 conv=>whnf
 refine Zx h (fun h=>?_) (fun h=>?_)
 conv=>whnf
 refine vAt h (fun x0 he6a he6b he6x h=>?_)
 conv=>whnf
 refine ⟨by kernel_rfl,?_⟩
 conv=>whnf
 refine ⟨he6a,he6b,Zo he6x ?_⟩
 conv=>whnf
 refine Z5 ?_
 refine YJ h (fun h=>?_) (fun h=>?_)
 conv=>whnf
 cases h
 exact ⟨⟨rfl,rfl⟩,hI5 _ rfl⟩
 conv=>whnf
 refine ⟨by kernel_rfl,?_⟩
 conv=>whnf
 refine vAt h (fun x1 he7a he7b he7x h=>?_)
 conv=>whnf
 refine vAt h (fun x2 he8a he8b he8x h=>?_)
 conv=>whnf
 refine ⟨by kernel_rfl,?_⟩
 conv=>whnf
 refine ⟨he8a,he8b,Zo he8x ?_⟩
 conv=>whnf
 refine vAt h (fun x3 he9a he9b he9x h=>?_)
 conv=>whnf
 refine ⟨trivial,?_⟩
 conv=>whnf
 refine ⟨he8a,he8b,Zo he8x ?_⟩
 conv=>whnf
 refine ⟨by kernel_rfl,?_⟩
 conv=>whnf
 refine ⟨he8a,he8b,Zo he8x ?_⟩
 conv=>whnf
 refine ⟨he8a,he8b,Zo he8x ?_⟩
 conv=>whnf
 refine ⟨by kernel_rfl,?_⟩
 conv=>whnf
 refine ⟨by decide,?_⟩
 conv=>whnf
 refine ⟨he8a,he8b,Zo he8x ?_⟩
 conv=>whnf
 cases h
 exact ⟨⟨rfl,rfl⟩,hI5 _ rfl⟩
 conv=>whnf
 cases h
 obtain rfl:=hR5 _ rfl
 exact hK
theorem ZDU:Zc Tryz.prog 166 ZwA:=by
 refine Zg YQ Zj mixed {draws:=[(2,[0,1,3,7,15,0,32,0,255,511,1023],.op 0 (.op 1 (.op 2 (.op 3 (.op 4 (.op 5 (.op 6 (.op 7 (.op 8 (.op 9 (.alt 10 (.done) (.done)))))))))))),(3,[0,1,3,7,15,0,32,127,255,511,0,1024,0,8191,16383],.op 0 (.op 1 (.op 2 (.op 3 (.op 4 (.op 5 (.op 6 (.op 7 (.op 8 (.op 9 (.op 10 (.op 11 (.op 12 (.op 13 (.alt 14 (.done) (.done))))))))))))))))]} (fn:=Tryz.f166) Tryz.func166 (by kernel_rfl) (by kernel_rfl) ?_
 rintro ⟨b0,key0,net0,⟨⟩⟩ K ⟨r,h,hK⟩
 change Qv b0 key0 net0=some r at h
 unfold Qv at h
 conv=>whnf
 intro fp0
 conv=>whnf
 intro fp1
 conv=>whnf
 intro fp2
 conv=>whnf
 refine Zx h (fun h=>?_) (fun h=>?_)
 conv=>whnf
 refine ⟨by kernel_rfl,?_⟩
 conv=>whnf
 refine vAt h (fun x0 he3a he3b he3x h=>?_)
 conv=>whnf
 refine ⟨by kernel_rfl,?_⟩
 conv=>whnf
 refine ⟨by decide,?_⟩
 conv=>whnf
 refine ⟨he3a,he3b,Zo he3x ?_⟩
 conv=>whnf
 refine ⟨trivial,?_⟩
 conv=>whnf
 cases h
 exact hK
 conv=>whnf
 refine ⟨by kernel_rfl,?_⟩
 conv=>whnf
 refine vAt h (fun x0 he4a he4b he4x h=>?_)
 conv=>whnf
 refine ⟨he4a,he4b,Zo he4x ?_⟩
 conv=>whnf
 intro fp5
 conv=>whnf
 refine vAt h (fun x1 he6a he6b he6x h=>?_)
 conv=>whnf
 refine ⟨by kernel_rfl,?_⟩
 conv=>whnf
 refine ⟨by decide,?_⟩
 conv=>whnf
 refine ⟨he6a,he6b,Zo he6x ?_⟩
 conv=>whnf
 refine ⟨trivial,?_⟩
 conv=>whnf
 cases h
 exact hK
theorem ZCR (q0:Zc Tryz.prog 164 Zwl) (q1:Zc Tryz.prog 119 c138) (q2:Zc Tryz.prog 192 Zwf) (q4:Zc Tryz.prog 185 c171) (q5:Zc Tryz.prog 166 ZwA) (q3:Zc Tryz.prog 167 c173):Zc Tryz.prog 162 Zxq:=by
 refine Zg Ztj (Ze q0 (Ze q1 (Ze q2 (Ze q4 (Ze q5 (Ze q3 Zj)))))) mixed {draws:=[(4,[0,0,2,6,14,0,32,96,224,480,992,2016,4094,8190,16382,32767,65535,0,262143],.op 0 (.op 1 (.op 2 (.op 3 (.op 4 (.op 5 (.op 6 (.op 7 (.op 8 (.op 9 (.alt 10 (.op 11 (.alt 12 (.op 13 (.op 14 (.op 15 (.op 16 (.alt 17 (.alt 18 (.done) (.done)) (.done)))))) (.alt 17 (.alt 12 (.op 13 (.op 14 (.op 15 (.op 16 (.alt 18 (.done) (.done)))))) (.done)) (.done)))) (.alt 17 (.alt 10 (.op 11 (.alt 12 (.op 13 (.op 14 (.op 15 (.op 16 (.alt 18 (.done) (.done)))))) (.done))) (.done)) (.done))))))))))))),(6,[0,0,0,0,8,28,63],.op 0 (.op 2 (.op 3 (.op 4 (.alt 1 (.alt 5 (.alt 6 (.done) (.done)) (.done)) (.alt 5 (.alt 1 (.alt 6 (.done) (.done)) (.done)) (.done))))))),(7,[0,0,0,4,12,28,60,0,252,508,1020,2044,4092,8191],.op 0 (.op 1 (.op 2 (.op 3 (.op 4 (.op 5 (.op 6 (.op 7 (.op 8 (.op 9 (.op 10 (.op 11 (.op 12 (.alt 13 (.done) (.done))))))))))))))),(9,[0,0,2,6,14,30,0,64,192,448,960,1984,4032,8190,16383,32767,65535,131071],.op 0 (.op 1 (.op 2 (.op 3 (.op 4 (.op 5 (.op 6 (.op 7 (.op 8 (.op 9 (.op 10 (.op 11 (.op 12 (.alt 13 (.op 14 (.op 15 (.op 16 (.alt 17 (.done) (.done))))) (.done))))))))))))))),(10,[0,0,2,6,14,0,32,96,224,480,992,2046,4095,8191,16383],.op 0 (.op 1 (.op 2 (.op 3 (.op 4 (.op 5 (.op 6 (.op 7 (.op 8 (.op 9 (.op 10 (.alt 11 (.op 12 (.op 13 (.alt 14 (.done) (.done)))) (.done)))))))))))))]} (fn:=Tryz.f162) Tryz.func162 (by kernel_rfl) (by kernel_rfl) ?_
 rintro ⟨a0,⟨⟩⟩ K ⟨r,h,hK⟩
 change Qp a0=some r at h
 unfold Qp at h
 focus
  conv=>whnf
  intro fp0
  conv=>whnf
  intro fp1
  conv=>whnf
  intro fp2
  conv=>whnf
  refine Zk h (fun nodesOf0 hb3 h=>?_)
  conv=>whnf
  refine Zk h (fun places0 hb4 h=>?_)
  conv=>whnf
  refine ⟨by kernel_rfl,?_⟩
  conv=>whnf
  obtain ⟨string0,hb5,h⟩:=Option.bind_eq_some_iff.1 h
  obtain ⟨sinks0,hb6,h⟩:=Option.bind_eq_some_iff.1 h
  obtain ⟨x0,he7a,he7b,he7x,h⟩:=atE h
  obtain ⟨x1,he8a,he8b,he8x,h⟩:=atE h
  refine ⟨?_,?_⟩
  rotate_left
  focus
   conv=>whnf
   refine ⟨_,hb5,?_⟩
   conv=>whnf
   refine ⟨_,hb6,?_⟩
   conv=>whnf
   refine ⟨he7a,he7b,Zo he7x ?_⟩
   conv=>whnf
   refine ⟨by kernel_rfl,?_⟩
   conv=>whnf
   refine ⟨he7a,he7b,Zo he7x ?_⟩
   conv=>whnf
   refine ⟨he8a,he8b,Zo he8x ?_⟩
   conv=>whnf
   refine ⟨by kernel_rfl,?_⟩
   conv=>whnf
   refine ⟨he8a,he8b,Zo he8x ?_⟩
   conv=>whnf
   refine ⟨trivial,?_⟩
  rotate_right
  focus
   conv=>whnf
   refine ⟨_,hb5,?_⟩
   conv=>whnf
   refine ⟨?_,?_⟩
   rotate_left
   focus
    conv=>whnf
    refine ⟨_,hb6,?_⟩
    conv=>whnf
    refine ⟨he7a,he7b,Zo he7x ?_⟩
    conv=>whnf
    refine ⟨by kernel_rfl,?_⟩
    conv=>whnf
    refine ⟨he7a,he7b,Zo he7x ?_⟩
    conv=>whnf
    refine ⟨he8a,he8b,Zo he8x ?_⟩
    conv=>whnf
    refine ⟨by kernel_rfl,?_⟩
    conv=>whnf
    refine ⟨he8a,he8b,Zo he8x ?_⟩
    conv=>whnf
    refine ⟨trivial,?_⟩
   rotate_right
   focus
    conv=>whnf
    refine ⟨_,hb6,?_⟩
    conv=>whnf
    refine ⟨he7a,he7b,Zo he7x ?_⟩
    conv=>whnf
    refine ⟨by kernel_rfl,?_⟩
    conv=>whnf
    refine ⟨he7a,he7b,Zo he7x ?_⟩
    conv=>whnf
    refine ⟨he8a,he8b,Zo he8x ?_⟩
    conv=>whnf
    refine ⟨by kernel_rfl,?_⟩
    conv=>whnf
    refine ⟨he8a,he8b,Zo he8x ?_⟩
    conv=>whnf
    refine ⟨trivial,?_⟩
  all_goals
   focus
    conv=>whnf
    refine ⟨by kernel_rfl,?_⟩
    conv=>whnf
    refine ⟨?_,?_⟩
    rotate_left
    focus
     conv=>whnf
     refine ⟨trivial,?_⟩
    rotate_right
    focus
     conv=>whnf
     refine ⟨trivial,?_⟩
    all_goals
     conv=>whnf
     refine ⟨by kernel_rfl,?_⟩
     conv=>whnf
     refine vAt h (fun x2 he9a he9b he9x h=>?_)
     conv=>whnf
     refine ⟨he9a,he9b,Zo he9x ?_⟩
     conv=>whnf
     intro fp10
     conv=>whnf
     refine vAt h (fun x3 he11a he11b he11x h=>?_)
     conv=>whnf
     refine ⟨by kernel_rfl,?_⟩
     conv=>whnf
     refine ⟨he11a,he11b,Zo he11x ?_⟩
     conv=>whnf
     refine Zk h (fun setNet0 hb12 h=>?_)
     conv=>whnf
     intro fp13
     conv=>whnf
     intro fp14
     conv=>whnf
     intro fp15
     conv=>whnf
     refine ⟨trivial,?_⟩
     conv=>whnf
     refine ⟨by decide,?_⟩
     conv=>whnf
     refine QJ h (fun hp16 h=>?_)
     conv=>whnf
     refine QJ h (fun hp17 h=>?_)
     conv=>whnf
     intro fp18
     conv=>whnf
     refine ⟨by kernel_rfl,?_⟩
     conv=>whnf
     refine ⟨by decide,?_⟩
     conv=>whnf
     refine QJ h (fun hp19 h=>?_)
     conv=>whnf
     refine QJ h (fun hp20 h=>?_)
     conv=>whnf
     refine ⟨trivial,?_⟩
     conv=>whnf
     refine ⟨by kernel_rfl,?_⟩
     conv=>whnf
     refine ⟨by decide,?_⟩
     conv=>whnf
     refine QJ h (fun hp21 h=>?_)
     conv=>whnf
     refine QJ h (fun hp22 h=>?_)
     conv=>whnf
     intro fp23
     conv=>whnf
     refine ⟨trivial,?_⟩
     conv=>whnf
     refine Zk h (fun connect0 hb24 h=>?_)
     conv=>whnf
     intro fp25
     conv=>whnf
     intro fp26
     conv=>whnf
     intro fp27
     conv=>whnf
     cases h
     exact hK
theorem ZC4:Zc Tryz.prog 302 ZyL:=by
 refine Zg Zq Zj mixed {} (fn:=Tryz.f302) Tryz.func302 (by kernel_rfl) (by kernel_rfl) ?_
 rintro ⟨o0,a0,⟨⟩⟩ K ⟨r,h,hK⟩
 change Xe o0 a0=some r at h
 unfold Xe at h
 conv=>whnf
 refine Zx h (fun h=>?_) (fun h=>?_)
 conv=>whnf
 refine Zx h (fun h=>?_) (fun h=>?_)
 conv=>whnf
 cases h
 exact hK
 conv=>whnf
 cases h
 exact hK
 conv=>whnf
 cases h
 exact hK
theorem ZBs (q0:Zc Tryz.prog 303 ZwQ) (q1:Zc Tryz.prog 209 c88):Zc Tryz.prog 316 ZxV:=by
 refine Zg Zq (Ze q0 (Ze q1 Zj)) mixed {} (fn:=Tryz.f316) Tryz.func316 (by kernel_rfl) (by kernel_rfl) ?_
 rintro ⟨c0,pin0,⟨⟩⟩ K ⟨r,h,hK⟩
 change Vw c0 pin0=some r at h
 unfold Vw at h
 conv=>whnf
 refine Zk h (fun output0 hb0 h=>?_)
 conv=>whnf
 refine Zk h (fun within0 hb1 h=>?_)
 conv=>whnf
 cases h
 exact hK
theorem ZB6 (q1:Zc Tryz.prog 220 c127) (q2:Zc Tryz.prog 209 c88) (q0:Zc Tryz.prog 247 ZxP):Zc Tryz.prog 205 Zyn:=by
 refine Zg Zq (Ze q1 (Ze q2 (Ze q0 Zj))) mixed {draws:=[(1,[0,1,0,4,12,28,63,127,255,511,1023,255,2303,255,8447,30975,63743,129279,260351,524287,1048575,2097151,4194303,8388607,4194303,33554431,67108863,134217727,268435455],.op 0 (.op 1 (.op 2 (.op 3 (.alt 4 (.op 5 (.alt 6 (.op 7 (.op 8 (.op 9 (.op 10 (.op 11 (.op 12 (.op 13 (.op 14 (.op 15 (.op 16 (.op 17 (.op 18 (.op 19 (.op 20 (.op 21 (.op 22 (.op 23 (.op 24 (.alt 25 (.op 26 (.op 27 (.op 28 (.done)))) (.done)))))))))))))))))))) (.done))) (.done))))))]} (fn:=Tryz.f205) Tryz.func205 (by kernel_rfl) (by kernel_rfl) ?_
 rintro ⟨d0,l0,x0,⟨⟩⟩ K ⟨r,h,hK⟩
 change X4 d0 l0 x0=some r at h
 unfold X4 at h
 conv=>whnf
 refine ⟨by kernel_rfl,?_⟩
 conv=>whnf
 refine Zk h (fun Cell0 hb0 h=>?_)
 conv=>whnf
 refine Zk h (fun within0 hb1 h=>?_)
 conv=>whnf
 refine YJ h (fun h=>?_) (fun h=>?_)
 conv=>whnf
 refine vAt h (fun x1 he2a he2b he2x h=>?_)
 conv=>whnf
 refine Zx h (fun h=>?_) (fun h=>?_)
 conv=>whnf
 refine Zk h (fun c1_0 hb3 h=>?_)
 conv=>whnf
 refine ⟨trivial,?_⟩
 conv=>whnf
 cases h
 exact hK
 conv=>whnf
 refine ⟨trivial,?_⟩
 conv=>whnf
 cases h
 exact hK
 conv=>whnf
 refine ⟨trivial,?_⟩
 conv=>whnf
 cases h
 exact hK
theorem ZA0 (q6:Zc Tryz.prog 92 c152) (q1:Zc Tryz.prog 119 c138) (q4:Zc Tryz.prog 165 Zzb) (q0:Zc Tryz.prog 162 Zxq) (q2:Zc Tryz.prog 164 Zwl) (q5:Zc Tryz.prog 166 ZwA) (q3:Zc Tryz.prog 167 c173) (q7:Zc Tryz.prog 159 ZwS):Zc Tryz.prog 95 Zx8:=by
 refine Zg YQ (Ze q6 (Ze q1 (Ze q4 (Ze q0 (Ze q2 (Ze q5 (Ze q3 (Ze q7 Zj)))))))) mixed {draws:=[(4,[0,1,3,0,8,24,0,64,248,504,1016,0,2048,8191,16383,32767],.op 0 (.op 1 (.op 2 (.op 3 (.op 4 (.op 6 (.op 7 (.op 11 (.op 12 (.alt 5 (.op 8 (.op 9 (.op 10 (.op 13 (.op 14 (.alt 15 (.done) (.done))))))) (.done))))))))))),(11,[0,1,3,0,8,31,63,0,255],.op 0 (.op 1 (.op 3 (.op 4 (.alt 2 (.op 5 (.op 6 (.alt 7 (.alt 8 (.done) (.done)) (.done)))) (.alt 7 (.alt 2 (.op 5 (.op 6 (.alt 8 (.done) (.done)))) (.done)) (.done))))))),(17,[0,1,0,4,0,16,48,127,255],.op 0 (.op 1 (.op 2 (.op 3 (.op 4 (.op 5 (.alt 6 (.op 7 (.alt 8 (.done) (.done))) (.done))))))))]} (fn:=Tryz.f95) Tryz.func95 (by kernel_rfl) (by kernel_rfl) ?_
 rintro ⟨a0,a1,⟨⟩⟩ K ⟨r,h,hK⟩
 change VT a0 a1=some r at h
 unfold VT at h
 conv=>whnf
 refine Zk h (fun clone0 hb0 h=>?_)
 conv=>whnf
 intro fp1
 conv=>whnf
 intro fp2
 conv=>whnf
 intro fp3
 conv=>whnf
 refine Zx h (fun h=>?_) (fun h=>?_)
 conv=>whnf
 refine ⟨by kernel_rfl,?_⟩
 conv=>whnf
 refine Zk h (fun places0 hb4 h=>?_)
 conv=>whnf
 refine vAt h (fun x0 he5a he5b he5x h=>?_)
 conv=>whnf
 refine ⟨by kernel_rfl,?_⟩
 conv=>whnf
 refine ⟨he5a,he5b,Zo he5x ?_⟩
 conv=>whnf
 refine vAt h (fun x1 he6a he6b he6x h=>?_)
 conv=>whnf
 refine ⟨he6a,he6b,Zo he6x ?_⟩
 conv=>whnf
 intro fp7
 conv=>whnf
 refine ⟨trivial,?_⟩
 conv=>whnf
 cases h
 exact hK
 conv=>whnf
 refine Zx h (fun h=>?_) (fun h=>?_)
 conv=>whnf
 refine Zk h (fun buffer0 hb8 h=>?_)
 conv=>whnf
 intro fp9
 conv=>whnf
 intro fp10
 conv=>whnf
 intro fp11
 conv=>whnf
 cases h
 exact hK
 conv=>whnf
 refine Zx h (fun h=>?_) (fun h=>?_)
 conv=>whnf
 refine Zk h (fun unbuffer0 hb12 h=>?_)
 conv=>whnf
 intro fp13
 conv=>whnf
 intro fp14
 conv=>whnf
 intro fp15
 conv=>whnf
 cases h
 exact hK
 conv=>whnf
 refine Zx h (fun h=>?_) (fun h=>?_)
 focus
  conv=>whnf
  refine Zk h (fun nodesOf0 hb16 h=>?_)
  conv=>whnf
  refine ⟨by kernel_rfl,?_⟩
  conv=>whnf
  obtain ⟨places0,hb17,h⟩:=Option.bind_eq_some_iff.1 h
  obtain ⟨x0,he18a,he18b,he18x,h⟩:=atE h
  refine ⟨?_,?_⟩
  rotate_left
  focus
   conv=>whnf
   refine ⟨_,hb17,?_⟩
   conv=>whnf
   refine ⟨he18a,he18b,Zo he18x ?_⟩
   conv=>whnf
   refine ⟨by kernel_rfl,?_⟩
   conv=>whnf
   refine ⟨he18a,he18b,Zo he18x ?_⟩
   conv=>whnf
   refine ⟨trivial,?_⟩
  rotate_right
  focus
   conv=>whnf
   refine ⟨_,hb17,?_⟩
   conv=>whnf
   refine ⟨he18a,he18b,Zo he18x ?_⟩
   conv=>whnf
   refine ⟨by kernel_rfl,?_⟩
   conv=>whnf
   refine ⟨he18a,he18b,Zo he18x ?_⟩
   conv=>whnf
   refine ⟨trivial,?_⟩
  all_goals
   conv=>whnf
   refine Zk h (fun setNet0 hb19 h=>?_)
   conv=>whnf
   intro fp20
   conv=>whnf
   intro fp21
   conv=>whnf
   intro fp22
   conv=>whnf
   refine Zk h (fun connect0 hb23 h=>?_)
   conv=>whnf
   intro fp24
   conv=>whnf
   intro fp25
   conv=>whnf
   intro fp26
   conv=>whnf
   cases h
   exact hK
 conv=>whnf
 refine Zx h (fun h=>?_) (fun h=>?_)
 conv=>whnf
 refine ⟨by kernel_rfl,?_⟩
 conv=>whnf
 refine Zk h (fun clone1 hb27 h=>?_)
 conv=>whnf
 refine vAt h (fun x0 he28a he28b he28x h=>?_)
 conv=>whnf
 refine ⟨he28a,he28b,Zo he28x ?_⟩
 conv=>whnf
 intro fp29
 conv=>whnf
 refine ⟨trivial,?_⟩
 conv=>whnf
 cases h
 exact hK
 conv=>whnf
 cases h
 exact hK
theorem ZB9:Zc Tryz.prog 219 Zys:=by
 refine Zg Zq Zj mixed {} (fn:=Tryz.f219) Tryz.func219 (by kernel_rfl) (by kernel_rfl) ?_
 rintro ⟨e0,⟨⟩⟩ K ⟨r,h,hK⟩
 change ZcG e0=some r at h
 unfold ZcG at h
 conv=>whnf
 refine Zx h (fun h=>?_) (fun h=>?_)
 conv=>whnf
 cases h
 exact hK
 conv=>whnf
 refine Zx h (fun h=>?_) (fun h=>?_)
 conv=>whnf
 cases h
 exact hK
 conv=>whnf
 refine Zx h (fun h=>?_) (fun h=>?_)
 conv=>whnf
 cases h
 exact hK
 conv=>whnf
 refine Zx h (fun h=>?_) (fun h=>?_)
 conv=>whnf
 cases h
 exact hK
 conv=>whnf
 cases h
 exact hK
theorem ZzV (q4:Zc Tryz.prog 203 ZyK) (q2:Zc Tryz.prog 204 Zzp) (q1:Zc Tryz.prog 205 Zyn) (q3:Zc Tryz.prog 206 ZwC) (q0:Zc Tryz.prog 207 ZyI):Zc Tryz.prog 155 ZxS:=by
 refine Zg Zq (Ze q4 (Ze q2 (Ze q1 (Ze q3 (Ze q0 Zj))))) mixed {loops:=[(0,[.reg 25 (.dat (.int .i64)),.ent 2 (nat_lit 3) (.flat Zqd.ety)]),(2,[.reg 51 (.dat (.int .i64)),.ent 2 (nat_lit 3) (.flat Zqd.ety)])]} (fn:=Tryz.f155) Tryz.func155 (by kernel_rfl) (by kernel_rfl) ?_
 rintro ⟨a0,a1,⟨⟩⟩ K ⟨r,h,hK⟩
 change Zcz a0 a1=some r at h
 unfold Zcz at h
 conv=>whnf
 refine Zk h (fun IsLibrary0 hb0 h=>?_)
 conv=>whnf
 refine Ze5 ?_
 refine YJ h (fun h=>?_) (fun h=>?_)
 conv=>whnf
 refine Zk h (fun hasNames0 hb1 h=>?_)
 conv=>whnf
 refine Z5 ?_
 refine YJ h (fun h=>?_) (fun h=>?_)
 conv=>whnf
 refine QJ h (fun hp2 h=>?_)
 conv=>whnf
 refine QJ h (fun hp3 h=>?_)
 conv=>whnf
 refine QJ h (fun hp4 h=>?_)
 conv=>whnf
 refine QJ h (fun hp5 h=>?_)
 conv=>whnf
 refine Yk h ?_
 rintro I6 μ6 ⟨v0,l0,⟨⟩⟩ zs6 h hI6 hR6
 change VA a0 a1 v0 l0=some zs6 at h
 unfold VA at h
 conv=>whnf
 refine Zx h (fun h=>?_) (fun h=>?_)
 conv=>whnf
 refine vAt h (fun x0 he7a he7b he7x h=>?_)
 conv=>whnf
 refine Zk h (fun isInstance0 hb8 h=>?_)
 conv=>whnf
 refine Z5 ?_
 refine YJ h (fun h=>?_) (fun h=>?_)
 conv=>whnf
 refine vAt h (fun x1 he9a he9b he9x h=>?_)
 conv=>whnf
 refine vAt h (fun x2 he10a he10b he10x h=>?_)
 conv=>whnf
 refine ⟨by kernel_rfl,?_⟩
 conv=>whnf
 refine ⟨he10a,he10b,Zo he10x ?_⟩
 conv=>whnf
 refine ⟨he10a,he10b,Zo he10x ?_⟩
 conv=>whnf
 refine ⟨by kernel_rfl,?_⟩
 conv=>whnf
 refine ⟨by decide,?_⟩
 conv=>whnf
 refine ⟨he10a,he10b,Zo he10x ?_⟩
 conv=>whnf
 cases h
 exact ⟨⟨rfl,rfl⟩,hI6 _ rfl⟩
 conv=>whnf
 cases h
 obtain rfl:=hR6 _ rfl
 exact hK
 conv=>whnf
 refine Yk h ?_
 rintro I11 μ11 ⟨v1,l1,⟨⟩⟩ zs11 h hI11 hR11
 change Qo a1 v1 l1=some zs11 at h
 unfold Qo at h
 conv=>whnf
 refine Zx h (fun h=>?_) (fun h=>?_)
 conv=>whnf
 refine vAt h (fun x0 he12a he12b he12x h=>?_)
 conv=>whnf
 refine Z5 ?_
 refine Zx h (fun h=>?_) (fun h=>?_)
 conv=>whnf
 refine Zk h (fun isNet0 hb13 h=>?_)
 conv=>whnf
 refine Z5 ?_
 refine YJ h (fun h=>?_) (fun h=>?_)
 conv=>whnf
 refine Zx h (fun h=>?_) (fun h=>?_)
 conv=>whnf
 refine vAt h (fun x1 he14a he14b he14x h=>?_)
 conv=>whnf
 refine ⟨by kernel_rfl,?_⟩
 conv=>whnf
 refine ⟨he14a,he14b,Zo he14x ?_⟩
 conv=>whnf
 refine ⟨he14a,he14b,Zo he14x ?_⟩
 conv=>whnf
 refine ⟨by kernel_rfl,?_⟩
 conv=>whnf
 refine ⟨by decide,?_⟩
 conv=>whnf
 refine ⟨he14a,he14b,Zo he14x ?_⟩
 conv=>whnf
 cases h
 exact ⟨⟨rfl,rfl⟩,hI11 _ rfl⟩
 conv=>whnf
 cases h
 exact ⟨⟨rfl,rfl⟩,hI11 _ rfl⟩
 conv=>whnf
 cases h
 obtain rfl:=hR11 _ rfl
 obtain rfl:=hR6 _ rfl
 exact hK
 conv=>whnf
 refine Ze5 ?_
 refine Zx h (fun h=>?_) (fun h=>?_)
 conv=>whnf
 refine Zk h (fun isNet0 hb15 h=>?_)
 conv=>whnf
 refine Z5 ?_
 refine YJ h (fun h=>?_) (fun h=>?_)
 conv=>whnf
 refine Zx h (fun h=>?_) (fun h=>?_)
 conv=>whnf
 refine vAt h (fun x1 he16a he16b he16x h=>?_)
 conv=>whnf
 refine ⟨by kernel_rfl,?_⟩
 conv=>whnf
 refine ⟨he16a,he16b,Zo he16x ?_⟩
 conv=>whnf
 refine ⟨he16a,he16b,Zo he16x ?_⟩
 conv=>whnf
 refine ⟨by kernel_rfl,?_⟩
 conv=>whnf
 refine ⟨by decide,?_⟩
 conv=>whnf
 refine ⟨he16a,he16b,Zo he16x ?_⟩
 conv=>whnf
 cases h
 exact ⟨⟨rfl,rfl⟩,hI11 _ rfl⟩
 conv=>whnf
 cases h
 exact ⟨⟨rfl,rfl⟩,hI11 _ rfl⟩
 conv=>whnf
 cases h
 obtain rfl:=hR11 _ rfl
 obtain rfl:=hR6 _ rfl
 exact hK
 conv=>whnf
 cases h
 obtain rfl:=hR11 _ rfl
 obtain rfl:=hR6 _ rfl
 exact hK
 conv=>whnf
 refine Zk h (fun c1_0 hb17 h=>?_)
 conv=>whnf
 cases h
 obtain rfl:=hR11 _ rfl
 obtain rfl:=hR6 _ rfl
 exact hK
 conv=>whnf
 cases h
 exact hK
 conv=>whnf
 cases h
 exact hK
theorem w93 (q1:Zc Tryz.prog 223 c89) (q0:Zc Tryz.prog 278 c92):Zc Tryz.prog 246 c93:=by
 refine Zg Zq (Ze q1 (Ze q0 Zj)) mixed {loops:=[(0,[.reg 7 (.dat (.int .i64))])]} (fn:=Tryz.f246) Tryz.func246 (by kernel_rfl) (by kernel_rfl) ?_
 rintro ⟨list0,⟨⟩⟩ K ⟨r,h,hK⟩
 change VG list0=some r at h
 unfold VG at h
 conv=>whnf
 refine Yk h ?_
 rintro I0 μ0 ⟨v0,⟨⟩⟩ zs0 h hI0 hR0
 change J5 list0 v0=some zs0 at h
 unfold J5 at h
 conv=>whnf
 refine Zx h (fun h=>?_) (fun h=>?_)
 conv=>whnf
 refine vAt h (fun x0 he1a he1b he1x h=>?_)
 conv=>whnf
 refine Zk h (fun isName0 hb2 h=>?_)
 conv=>whnf
 refine Ze5 ?_
 refine YJ h (fun h=>?_) (fun h=>?_)
 conv=>whnf
 refine ⟨by decide,?_⟩
 conv=>whnf
 refine QJ h (fun hp3 h=>?_)
 conv=>whnf
 refine QJ h (fun hp4 h=>?_)
 conv=>whnf
 refine Zk h (fun string0 hb5 h=>?_)
 conv=>whnf
 refine YJ h (fun h=>?_) (fun h=>?_)
 conv=>whnf
 cases h
 obtain rfl:=hR0 _ rfl
 exact hK
 conv=>whnf
 cases h
 exact ⟨⟨rfl,rfl⟩,hI0 _ rfl⟩
 conv=>whnf
 cases h
 obtain rfl:=hR0 _ rfl
 exact hK
 conv=>whnf
 cases h
 obtain rfl:=hR0 _ rfl
 exact hK
theorem ZDg (q1:Zc Tryz.prog 325 Zyw) (q0:Zc Tryz.prog 326 Zyc):Zc Tryz.prog 324 c105:=by
 refine Zg Zq (Ze q1 (Ze q0 Zj)) mixed {} (fn:=Tryz.f324) Tryz.func324 (by kernel_rfl) (by kernel_rfl) ?_
 rintro ⟨t0,a0,⟨⟩⟩ K ⟨r,h,hK⟩
 change QE t0 a0=some r at h
 unfold QE at h
 conv=>whnf
 refine Zk h (fun IsTable0 hb0 h=>?_)
 conv=>whnf
 refine Ze5 ?_
 refine YJ h (fun h=>?_) (fun h=>?_)
 conv=>whnf
 refine YJ h (fun h=>?_) (fun h=>?_)
 conv=>whnf
 refine Zk h (fun int64_0 hb1 h=>?_)
 conv=>whnf
 cases h
 exact hK
 conv=>whnf
 cases h
 exact hK
 conv=>whnf
 cases h
 exact hK
theorem w97 (q0:Zc Tryz.prog 209 c88):Zc Tryz.prog 250 c97:=by
 refine Zg Zq (Ze q0 Zj) mixed {} (fn:=Tryz.f250) Tryz.func250 (by kernel_rfl) (by kernel_rfl) ?_
 rintro ⟨n0,a0,a1,⟨⟩⟩ K ⟨r,h,hK⟩
 change Za7 n0 a0 a1=some r at h
 unfold Za7 at h
 conv=>whnf
 refine Zk h (fun within0 hb0 h=>?_)
 conv=>whnf
 cases h
 exact hK
theorem ZDO (q0:Zc Tryz.prog 252 c160):Zc Tryz.prog 221 ZyA:=by
 refine Zg Zq (Ze q0 Zj) mixed {} (fn:=Tryz.f221) Tryz.func221 (by kernel_rfl) (by kernel_rfl) ?_
 rintro ⟨a0,b0,⟨⟩⟩ K ⟨r,h,hK⟩
 change Zcq a0 b0=some r at h
 unfold Zcq at h
 conv=>whnf
 refine Zx h (fun h=>?_) (fun h=>?_)
 conv=>whnf
 refine Zk h (fun c1_0 hb0 h=>?_)
 conv=>whnf
 cases h
 exact hK
 conv=>whnf
 cases h
 exact hK
theorem ZBH:Zc Tryz.prog 253 c159:=by
 refine Zg Zq Zj mixed {} (fn:=Tryz.f253) Tryz.func253 (by kernel_rfl) (by kernel_rfl) ?_
 rintro ⟨p0,q0,⟨⟩⟩ K ⟨r,h,hK⟩
 change Zbz p0 q0=some r at h
 unfold Zbz at h
 conv=>whnf
 cases h
 exact hK
theorem Zz8 (q0:Zc Tryz.prog 121 c96) (q3:Zc Tryz.prog 209 c88) (q2:Zc Tryz.prog 211 Zwk) (q1:Zc Tryz.prog 334 Zze):Zc Tryz.prog 333 ZyQ:=by
 refine Zg Zq (Ze q0 (Ze q3 (Ze q2 (Ze q1 Zj)))) mixed {} (fn:=Tryz.f333) Tryz.func333 (by kernel_rfl) (by kernel_rfl) ?_
 rintro ⟨list0,⟨⟩⟩ K ⟨r,h,hK⟩
 change Zc6 list0=some r at h
 unfold Zc6 at h
 conv=>whnf
 refine Zk h (fun int64_0 hb0 h=>?_)
 conv=>whnf
 refine Zk h (fun within0 hb1 h=>?_)
 conv=>whnf
 refine YJ h (fun h=>?_) (fun h=>?_)
 conv=>whnf
 refine Zk h (fun areWithin0 hb2 h=>?_)
 conv=>whnf
 refine YJ h (fun h=>?_) (fun h=>?_)
 conv=>whnf
 refine Zk h (fun isIncreasing0 hb3 h=>?_)
 conv=>whnf
 cases h
 exact hK
 conv=>whnf
 cases h
 exact hK
 conv=>whnf
 cases h
 exact hK
theorem w95:Zc Tryz.prog 313 c95:=by
 refine Zg Zq Zj mixed {} (fn:=Tryz.f313) Tryz.func313 (by kernel_rfl) (by kernel_rfl) ?_
 rintro ⟨kind0,⟨⟩⟩ K ⟨r,h,hK⟩
 change Zdk kind0=some r at h
 unfold Zdk at h
 conv=>whnf
 refine ZlH h (fun h=>?_) (fun h=>?_)
 conv=>whnf
 cases h
 exact hK
 conv=>whnf
 cases h
 exact hK
theorem ZCP:Zc Tryz.prog 220 c127:=by
 refine Zg Zq Zj mixed {} (fn:=Tryz.f220) Tryz.func220 (by kernel_rfl) (by kernel_rfl) ?_
 rintro ⟨list0,⟨⟩⟩ K ⟨r,h,hK⟩
 change Y6 list0=some r at h
 unfold Y6 at h
 conv=>whnf
 cases h
 exact hK
theorem ZDv (q0:Zc Tryz.prog 260 ZyC):Zc Tryz.prog 230 ZyO:=by
 refine Zg Zq (Ze q0 Zj) mixed {loops:=[(0,[.reg 5 (.dat (.int .i64))])],draws:=[(6,[0,0,3,7,0,0,48,112,255,511],.op 0 (.op 1 (.op 2 (.op 3 (.op 4 (.op 5 (.op 6 (.op 7 (.alt 8 (.op 9 (.done)) (.done))))))))))]} (fn:=Tryz.f230) Tryz.func230 (by kernel_rfl) (by kernel_rfl) ?_
 rintro ⟨a0,b0,⟨⟩⟩ K ⟨r,h,hK⟩
 change ZeI a0 b0=some r at h
 unfold ZeI at h
 conv=>whnf
 refine Z5 ?_
 refine Zx h (fun h=>?_) (fun h=>?_)
 conv=>whnf
 refine Yk h ?_
 rintro I0 μ0 ⟨i0,⟨⟩⟩ zs0 h hI0 hR0
 change Zeq a0 b0 i0=some zs0 at h
 unfold Zeq at h
 conv=>whnf
 refine Zx h (fun h=>?_) (fun h=>?_)
 conv=>whnf
 refine ⟨by kernel_rfl,?_⟩
 conv=>whnf
 refine vAt h (fun x0 he1a he1b he1x h=>?_)
 conv=>whnf
 refine vAt h (fun x1 he2a he2b he2x h=>?_)
 conv=>whnf
 refine Zk h (fun eqArc0 hb3 h=>?_)
 conv=>whnf
 refine ⟨trivial,?_⟩
 conv=>whnf
 refine Z5 ?_
 refine YJ h (fun h=>?_) (fun h=>?_)
 conv=>whnf
 cases h
 exact ⟨⟨rfl,rfl⟩,hI0 _ rfl⟩
 conv=>whnf
 cases h
 obtain rfl:=hR0 _ rfl
 exact hK
 conv=>whnf
 cases h
 obtain rfl:=hR0 _ rfl
 exact hK
 conv=>whnf
 cases h
 exact hK
theorem ZDS:Zc Tryz.prog 170 ZyX:=by
 refine Zg Zq Zj mixed {} (fn:=Tryz.f170) Tryz.func170 (by kernel_rfl) (by kernel_rfl) ?_
 rintro ⟨a0,b0,⟨⟩⟩ K ⟨r,h,hK⟩
 change Zdg a0 b0=some r at h
 unfold Zdg at h
 conv=>whnf
 refine Z5 ?_
 refine Zx h (fun h=>?_) (fun h=>?_)
 conv=>whnf
 refine Z5 ?_
 refine Zx h (fun h=>?_) (fun h=>?_)
 conv=>whnf
 refine Z5 ?_
 refine Zx h (fun h=>?_) (fun h=>?_)
 conv=>whnf
 cases h
 exact hK
 conv=>whnf
 cases h
 exact hK
 conv=>whnf
 cases h
 exact hK
 conv=>whnf
 cases h
 exact hK
theorem ZCG (q1:Zc Tryz.prog 49 ZrR) (q2:Zc Tryz.prog 173 Zx1) (q3:Zc Tryz.prog 174 c222) (q0:Zc Tryz.prog 32 Zwh):Zc Tryz.prog 105 Zyk:=by
 refine Zg Zq (Ze q1 (Ze q2 (Ze q3 (Ze q0 Zj)))) mixed {loops:=[(0,[.reg 1 (.dat (.int .i64)),.reg 5 (.dat (.int .i64))])],draws:=[(4,[0,0,3,7,15,0,32,127],.op 0 (.op 1 (.op 2 (.op 3 (.op 4 (.op 5 (.alt 6 (.op 7 (.done)) (.done))))))))]} (fn:=Tryz.f105) Tryz.func105 (by kernel_rfl) (by kernel_rfl) ?_
 rintro ⟨a0,a1,⟨⟩⟩ K ⟨r,h,hK⟩
 change ZbJ a0 a1=some r at h
 unfold ZbJ at h
 conv=>whnf
 refine Yk h ?_
 rintro I0 μ0 ⟨v0,v1,⟨⟩⟩ zs0 h hI0 hR0
 change Q5 a0 v0 v1=some zs0 at h
 unfold Q5 at h
 conv=>whnf
 refine Zx h (fun h=>?_) (fun h=>?_)
 conv=>whnf
 refine ⟨by kernel_rfl,?_⟩
 conv=>whnf
 refine vAt h (fun x0 he1a he1b he1x h=>?_)
 conv=>whnf
 refine Zk h (fun markText0 hb2 h=>?_)
 conv=>whnf
 refine ⟨trivial,?_⟩
 conv=>whnf
 refine Z5 ?_
 refine Zx h (fun h=>?_) (fun h=>?_)
 conv=>whnf
 refine ⟨he1a,he1b,Zo he1x ?_⟩
 conv=>whnf
 refine Z5 ?_
 refine Zx h (fun h=>?_) (fun h=>?_)
 conv=>whnf
 refine ⟨he1a,he1b,Zo he1x ?_⟩
 conv=>whnf
 refine Zk h (fun heldPinS0 hb3 h=>?_)
 conv=>whnf
 refine Zx h (fun h=>?_) (fun h=>?_)
 conv=>whnf
 cases h
 obtain rfl:=hR0 _ rfl
 exact hK
 conv=>whnf
 refine ⟨he1a,he1b,Zo he1x ?_⟩
 conv=>whnf
 refine Zk h (fun heldArcS0 hb4 h=>?_)
 conv=>whnf
 refine Zx h (fun h=>?_) (fun h=>?_)
 conv=>whnf
 cases h
 obtain rfl:=hR0 _ rfl
 exact hK
 conv=>whnf
 refine ⟨he1a,he1b,Zo he1x ?_⟩
 conv=>whnf
 refine Zk h (fun heldInt64S0 hb5 h=>?_)
 conv=>whnf
 refine Zx h (fun h=>?_) (fun h=>?_)
 conv=>whnf
 cases h
 obtain rfl:=hR0 _ rfl
 exact hK
 conv=>whnf
 refine ⟨he1a,he1b,Zo he1x ?_⟩
 conv=>whnf
 refine Z5 ?_
 refine Zx h (fun h=>?_) (fun h=>?_)
 conv=>whnf
 refine ⟨he1a,he1b,Zo he1x ?_⟩
 conv=>whnf
 refine Z5 ?_
 refine Zx h (fun h=>?_) (fun h=>?_)
 conv=>whnf
 cases h
 exact ⟨⟨rfl,rfl⟩,hI0 _ rfl⟩
 conv=>whnf
 cases h
 obtain rfl:=hR0 _ rfl
 exact hK
 conv=>whnf
 cases h
 obtain rfl:=hR0 _ rfl
 exact hK
 conv=>whnf
 cases h
 obtain rfl:=hR0 _ rfl
 exact hK
 conv=>whnf
 cases h
 obtain rfl:=hR0 _ rfl
 exact hK
 conv=>whnf
 cases h
 obtain rfl:=hR0 _ rfl
 exact hK
theorem ZA4:Zc Tryz.prog 32 Zwh:=by
 refine Zg Zq Zj mixed {loops:=[(0,[.reg 1 (.dat (.int .i64)),.reg 5 (.dat (.int .i64))])]} (fn:=Tryz.f32) Tryz.func32 (by kernel_rfl) (by kernel_rfl) ?_
 rintro ⟨a0,k0,⟨⟩⟩ K ⟨r,h,hK⟩
 change YT a0 k0=some r at h
 unfold YT at h
 conv=>whnf
 refine Yk h ?_
 rintro I0 μ0 ⟨k1,i0,⟨⟩⟩ zs0 h hI0 hR0
 change Qu a0 k1 i0=some zs0 at h
 unfold Qu at h
 conv=>whnf
 refine Zx h (fun h=>?_) (fun h=>?_)
 conv=>whnf
 refine vAt h (fun x0 he1a he1b he1x h=>?_)
 conv=>whnf
 refine Z5 ?_
 refine Zx h (fun h=>?_) (fun h=>?_)
 conv=>whnf
 cases h
 exact ⟨⟨rfl,rfl⟩,hI0 _ rfl⟩
 conv=>whnf
 cases h
 obtain rfl:=hR0 _ rfl
 exact hK
 conv=>whnf
 cases h
 obtain rfl:=hR0 _ rfl
 exact hK
theorem ZAd (q0:Zc Tryz.prog 32 Zwh):Zc Tryz.prog 52 c229:=by
 refine Zg Zq (Ze q0 Zj) mixed {loops:=[(0,[.reg 1 (.dat (.int .i64)),.reg 5 (.dat (.int .i64))])]} (fn:=Tryz.f52) Tryz.func52 (by kernel_rfl) (by kernel_rfl) ?_
 rintro ⟨a0,k0,⟨⟩⟩ K ⟨r,h,hK⟩
 change ZbH a0 k0=some r at h
 unfold ZbH at h
 conv=>whnf
 refine Yk h ?_
 rintro I0 μ0 ⟨k1,i0,⟨⟩⟩ zs0 h hI0 hR0
 change Q6 a0 k1 i0=some zs0 at h
 unfold Q6 at h
 conv=>whnf
 refine Zx h (fun h=>?_) (fun h=>?_)
 conv=>whnf
 refine vAt h (fun x0 he1a he1b he1x h=>?_)
 conv=>whnf
 refine Zk h (fun heldInt64S0 hb2 h=>?_)
 conv=>whnf
 refine Zx h (fun h=>?_) (fun h=>?_)
 conv=>whnf
 cases h
 obtain rfl:=hR0 _ rfl
 exact hK
 conv=>whnf
 refine ⟨he1a,he1b,Zo he1x ?_⟩
 conv=>whnf
 refine Zk h (fun heldInt64S1 hb3 h=>?_)
 conv=>whnf
 refine Zx h (fun h=>?_) (fun h=>?_)
 conv=>whnf
 cases h
 obtain rfl:=hR0 _ rfl
 exact hK
 conv=>whnf
 refine ⟨he1a,he1b,Zo he1x ?_⟩
 conv=>whnf
 refine Zk h (fun heldInt64S2 hb4 h=>?_)
 conv=>whnf
 refine Zx h (fun h=>?_) (fun h=>?_)
 conv=>whnf
 cases h
 obtain rfl:=hR0 _ rfl
 exact hK
 conv=>whnf
 refine ⟨he1a,he1b,Zo he1x ?_⟩
 conv=>whnf
 refine Zk h (fun heldInt64S3 hb5 h=>?_)
 conv=>whnf
 refine Zx h (fun h=>?_) (fun h=>?_)
 conv=>whnf
 cases h
 obtain rfl:=hR0 _ rfl
 exact hK
 conv=>whnf
 cases h
 exact ⟨⟨rfl,rfl⟩,hI0 _ rfl⟩
 conv=>whnf
 cases h
 obtain rfl:=hR0 _ rfl
 exact hK
theorem w11 (q0:Zc Tryz.prog 139 c10):Zc Tryz.prog 77 c11:=by
 refine Zg Zq (Ze q0 Zj) mixed {loops:=[(0,[.reg 1 (.dat (.int .i64)),.reg 5 (.dat (.int .i64))])]} (fn:=Tryz.f77) Tryz.func77 (by kernel_rfl) (by kernel_rfl) ?_
 rintro ⟨a0,left0,⟨⟩⟩ K ⟨r,h,hK⟩
 change Vg a0 left0=some r at h
 unfold Vg at h
 conv=>whnf
 refine Zx h (fun h=>?_) (fun h=>?_)
 conv=>whnf
 cases h
 exact hK
 conv=>whnf
 refine Yk h ?_
 rintro I0 μ0 ⟨left1,i0,⟨⟩⟩ zs0 h hI0 hR0
 change Zb0 a0 left1 i0=some zs0 at h
 unfold Zb0 at h
 conv=>whnf
 refine Zx h (fun h=>?_) (fun h=>?_)
 conv=>whnf
 refine vAt h (fun x0 he1a he1b he1x h=>?_)
 conv=>whnf
 refine Zk h (fun szInstance0 hb2 h=>?_)
 conv=>whnf
 refine Zx h (fun h=>?_) (fun h=>?_)
 conv=>whnf
 cases h
 obtain rfl:=hR0 _ rfl
 exact hK
 conv=>whnf
 cases h
 exact ⟨⟨rfl,rfl⟩,hI0 _ rfl⟩
 conv=>whnf
 cases h
 obtain rfl:=hR0 _ rfl
 exact hK
theorem w2:Zc Tryz.prog 109 c2:=by
 refine Zg Zq Zj mixed {} (fn:=Tryz.f109) Tryz.func109 (by kernel_rfl) (by kernel_rfl) ?_
 rintro ⟨a0,left0,⟨⟩⟩ K ⟨r,h,hK⟩
 change YX a0 left0=some r at h
 unfold YX at h
 conv=>whnf
 refine Zx h (fun h=>?_) (fun h=>?_)
 conv=>whnf
 cases h
 exact hK
 conv=>whnf
 cases h
 exact hK
theorem w9 (q0:Zc Tryz.prog 76 c8):Zc Tryz.prog 33 c9:=by
 refine Zg Zq (Ze q0 Zj) mixed {} (fn:=Tryz.f33) Tryz.func33 (by kernel_rfl) (by kernel_rfl) ?_
 rintro ⟨a0,left0,⟨⟩⟩ K ⟨r,h,hK⟩
 change JB a0 left0=some r at h
 unfold JB at h
 conv=>whnf
 refine Zk h (fun szCellS0 hb0 h=>?_)
 conv=>whnf
 refine Zx h (fun h=>?_) (fun h=>?_)
 conv=>whnf
 cases h
 exact hK
 conv=>whnf
 cases h
 exact hK
theorem w1 (q0:Zc Tryz.prog 237 c0):Zc Tryz.prog 196 c1:=by
 refine Zg Zq (Ze q0 Zj) mixed {loops:=[(0,[.reg 1 (.dat (.int .i64)),.reg 5 (.dat (.int .i64))])]} (fn:=Tryz.f196) Tryz.func196 (by kernel_rfl) (by kernel_rfl) ?_
 rintro ⟨a0,left0,⟨⟩⟩ K ⟨r,h,hK⟩
 change Zcc a0 left0=some r at h
 unfold Zcc at h
 conv=>whnf
 refine Zx h (fun h=>?_) (fun h=>?_)
 conv=>whnf
 cases h
 exact hK
 conv=>whnf
 refine Yk h ?_
 rintro I0 μ0 ⟨left1,i0,⟨⟩⟩ zs0 h hI0 hR0
 change Zev a0 left1 i0=some zs0 at h
 unfold Zev at h
 conv=>whnf
 refine Zx h (fun h=>?_) (fun h=>?_)
 conv=>whnf
 refine vAt h (fun x0 he1a he1b he1x h=>?_)
 conv=>whnf
 refine Zk h (fun szPin0 hb2 h=>?_)
 conv=>whnf
 refine Zx h (fun h=>?_) (fun h=>?_)
 conv=>whnf
 cases h
 obtain rfl:=hR0 _ rfl
 exact hK
 conv=>whnf
 cases h
 exact ⟨⟨rfl,rfl⟩,hI0 _ rfl⟩
 conv=>whnf
 cases h
 obtain rfl:=hR0 _ rfl
 exact hK
theorem w14 (q0:Zc Tryz.prog 140 c13):Zc Tryz.prog 79 c14:=by
 refine Zg Zq (Ze q0 Zj) mixed {loops:=[(0,[.reg 1 (.dat (.int .i64)),.reg 5 (.dat (.int .i64))])]} (fn:=Tryz.f79) Tryz.func79 (by kernel_rfl) (by kernel_rfl) ?_
 rintro ⟨a0,left0,⟨⟩⟩ K ⟨r,h,hK⟩
 change Zbg a0 left0=some r at h
 unfold Zbg at h
 conv=>whnf
 refine Zx h (fun h=>?_) (fun h=>?_)
 conv=>whnf
 cases h
 exact hK
 conv=>whnf
 refine Yk h ?_
 rintro I0 μ0 ⟨left1,i0,⟨⟩⟩ zs0 h hI0 hR0
 change ZdI a0 left1 i0=some zs0 at h
 unfold ZdI at h
 conv=>whnf
 refine Zx h (fun h=>?_) (fun h=>?_)
 conv=>whnf
 refine vAt h (fun x0 he1a he1b he1x h=>?_)
 conv=>whnf
 refine Zk h (fun szPort0 hb2 h=>?_)
 conv=>whnf
 refine Zx h (fun h=>?_) (fun h=>?_)
 conv=>whnf
 cases h
 obtain rfl:=hR0 _ rfl
 exact hK
 conv=>whnf
 cases h
 exact ⟨⟨rfl,rfl⟩,hI0 _ rfl⟩
 conv=>whnf
 cases h
 obtain rfl:=hR0 _ rfl
 exact hK
theorem w12:Zc Tryz.prog 78 c12:=by
 refine Zg Zq Zj mixed {loops:=[(0,[.reg 1 (.dat (.int .i64)),.reg 5 (.dat (.int .i64))])]} (fn:=Tryz.f78) Tryz.func78 (by kernel_rfl) (by kernel_rfl) ?_
 rintro ⟨a0,left0,⟨⟩⟩ K ⟨r,h,hK⟩
 change Jy a0 left0=some r at h
 unfold Jy at h
 conv=>whnf
 refine Zx h (fun h=>?_) (fun h=>?_)
 conv=>whnf
 cases h
 exact hK
 conv=>whnf
 refine Yk h ?_
 rintro I0 μ0 ⟨left1,i0,⟨⟩⟩ zs0 h hI0 hR0
 change XL a0 left1 i0=some zs0 at h
 unfold XL at h
 conv=>whnf
 refine Zx h (fun h=>?_) (fun h=>?_)
 conv=>whnf
 refine vAt h (fun x0 he1a he1b he1x h=>?_)
 conv=>whnf
 refine Zx h (fun h=>?_) (fun h=>?_)
 conv=>whnf
 cases h
 obtain rfl:=hR0 _ rfl
 exact hK
 conv=>whnf
 cases h
 exact ⟨⟨rfl,rfl⟩,hI0 _ rfl⟩
 conv=>whnf
 cases h
 obtain rfl:=hR0 _ rfl
 exact hK
theorem w29 (q0:Zc Tryz.prog 152 c28):Zc Tryz.prog 87 c29:=by
 refine Zg YQ (Ze q0 Zj) mixed {loops:=[(0,[.reg 4 (.dat (.int .i64)),.ent 0 (nat_lit 207) Zka])]} (fn:=Tryz.f87) Tryz.func87 (by kernel_rfl) (by kernel_rfl) ?_
 rintro ⟨a0,⟨⟩⟩ K ⟨r,h,hK⟩
 change Zdt a0=some r at h
 unfold Zdt at h
 conv=>whnf
 refine QJ h (fun hp0 h=>?_)
 conv=>whnf
 refine QJ h (fun hp1 h=>?_)
 conv=>whnf
 refine QJ h (fun hp2 h=>?_)
 conv=>whnf
 refine QJ h (fun hp3 h=>?_)
 conv=>whnf
 intro fp4
 conv=>whnf
 refine Yk h ?_
 rintro I5 μ5 ⟨i0,l0,⟨⟩⟩ zs5 h hI5 hR5
 change Zed a0 i0 l0=some zs5 at h
 unfold Zed at h
 conv=>whnf
 intro fp6
 conv=>whnf
 refine Zx h (fun h=>?_) (fun h=>?_)
 conv=>whnf
 refine vAt h (fun x0 he7a he7b he7x h=>?_)
 conv=>whnf
 refine Zk h (fun toCell0 hb8 h=>?_)
 conv=>whnf
 intro fp9
 conv=>whnf
 refine vAt h (fun x1 he10a he10b he10x h=>?_)
 conv=>whnf
 refine ⟨he10a,he10b,Zo he10x ?_⟩
 conv=>whnf
 intro fp11
 conv=>whnf
 intro fp12
 conv=>whnf
 cases h
 exact ⟨⟨rfl,rfl⟩,hI5 _ rfl⟩
 conv=>whnf
 cases h
 obtain rfl:=hR5 _ rfl
 exact hK
theorem ZAN:Zc Tryz.prog 213 Zyz:=by
 refine Zg Zq Zj mixed {} (fn:=Tryz.f213) Tryz.func213 (by kernel_rfl) (by kernel_rfl) ?_
 rintro ⟨s0,⟨⟩⟩ K ⟨r,h,hK⟩
 change Y2 s0=some r at h
 unfold Y2 at h
 conv=>whnf
 refine ⟨fun hd=>?_,?_⟩
 have h:=ZrV (T:=(some ([]:List ZM))) h (by simp [hd,Zz])
 conv=>whnf
 cases h
 exact hK
 conv=>whnf
 refine QJ h (fun hp0 h=>?_)
 conv=>whnf
 cases h
 exact hK
theorem ZDl (q0:Zc Tryz.prog 302 ZyL):Zc Tryz.prog 317 c116:=by
 refine Zg Zq (Ze q0 Zj) mixed {loops:=[(0,[.reg 8 (.dat (.int .i64))])]} (fn:=Tryz.f317) Tryz.func317 (by kernel_rfl) (by kernel_rfl) ?_
 rintro ⟨s0,f0,⟨⟩⟩ K ⟨r,h,hK⟩
 change ZL s0 f0=some r at h
 unfold ZL at h
 conv=>whnf
 refine Yk h ?_
 rintro I0 μ0 ⟨v0,⟨⟩⟩ zs0 h hI0 hR0
 change ZT s0 f0 v0=some zs0 at h
 unfold ZT at h
 conv=>whnf
 refine Zx h (fun h=>?_) (fun h=>?_)
 conv=>whnf
 refine vAt h (fun x0 he1a he1b he1x h=>?_)
 conv=>whnf
 refine Zk h (fun c1_0 hb2 h=>?_)
 conv=>whnf
 refine YJ h (fun h=>?_) (fun h=>?_)
 conv=>whnf
 cases h
 obtain rfl:=hR0 _ rfl
 exact hK
 conv=>whnf
 cases h
 exact ⟨⟨rfl,rfl⟩,hI0 _ rfl⟩
 conv=>whnf
 cases h
 obtain rfl:=hR0 _ rfl
 exact hK
theorem ZB2 (q0:Zc Tryz.prog 257 ZxU):Zc Tryz.prog 256 c164:=by
 refine Zg Zq (Ze q0 Zj) mixed {loops:=[(0,[.reg 8 (.dat (.int .i64))])]} (fn:=Tryz.f256) Tryz.func256 (by kernel_rfl) (by kernel_rfl) ?_
 rintro ⟨s0,f0,⟨⟩⟩ K ⟨r,h,hK⟩
 change ZA s0 f0=some r at h
 unfold ZA at h
 conv=>whnf
 refine Yk h ?_
 rintro I0 μ0 ⟨v0,⟨⟩⟩ zs0 h hI0 hR0
 change ZB s0 f0 v0=some zs0 at h
 unfold ZB at h
 conv=>whnf
 refine Zx h (fun h=>?_) (fun h=>?_)
 conv=>whnf
 refine vAt h (fun x0 he1a he1b he1x h=>?_)
 conv=>whnf
 refine Zk h (fun c1_0 hb2 h=>?_)
 conv=>whnf
 refine YJ h (fun h=>?_) (fun h=>?_)
 conv=>whnf
 cases h
 obtain rfl:=hR0 _ rfl
 exact hK
 conv=>whnf
 cases h
 exact ⟨⟨rfl,rfl⟩,hI0 _ rfl⟩
 conv=>whnf
 cases h
 obtain rfl:=hR0 _ rfl
 exact hK
theorem ZDD:Zc Tryz.prog 326 Zyc:=by
 refine Zg Zq Zj mixed {loops:=[(0,[.reg 3 (.dat (.int .i64)),.reg 4 (.dat (.int .i64))])]} (fn:=Tryz.f326) Tryz.func326 (by kernel_rfl) (by kernel_rfl) ?_
 rintro ⟨x0,⟨⟩⟩ K ⟨r,h,hK⟩
 change XH x0=some r at h
 unfold XH at h
 conv=>whnf
 refine Zx h (fun h=>?_) (fun h=>?_)
 conv=>whnf
 cases h
 conv=>whnf
 refine vAt h (fun x1 he0a he0b he0x h=>?_)
 conv=>whnf
 refine Yk h ?_
 rintro I1 μ1 ⟨m0,i0,⟨⟩⟩ zs1 h hI1 hR1
 change Xb x0 m0 i0=some zs1 at h
 unfold Xb at h
 conv=>whnf
 refine Zx h (fun h=>?_) (fun h=>?_)
 conv=>whnf
 refine vAt h (fun x2 he2a he2b he2x h=>?_)
 conv=>whnf
 cases h
 exact ⟨⟨rfl,rfl⟩,hI1 _ rfl⟩
 conv=>whnf
 cases h
 obtain rfl:=hR1 _ rfl
 exact hK
theorem w49 (q1:Zc Tryz.prog 144 c43) (q0:Zc Tryz.prog 273 c48):Zc Tryz.prog 240 c49:=by
 refine Zg Zq (Ze q1 (Ze q0 Zj)) mixed {} (fn:=Tryz.f240) Tryz.func240 (by kernel_rfl) (by kernel_rfl) ?_
 rintro ⟨a0,a1,⟨⟩⟩ K ⟨r,h,hK⟩
 change Zet a0 a1=some r at h
 unfold Zet at h
 conv=>whnf
 refine Zk h (fun l01In0 hb0 h=>?_)
 conv=>whnf
 refine Ze5 ?_
 refine YJ h (fun h=>?_) (fun h=>?_)
 conv=>whnf
 refine Zk h (fun l01In1 hb1 h=>?_)
 conv=>whnf
 refine Z5 ?_
 refine YJ h (fun h=>?_) (fun h=>?_)
 conv=>whnf
 refine vAt h (fun x0 he2a he2b he2x h=>?_)
 conv=>whnf
 refine Zx h (fun h=>?_) (fun h=>?_)
 conv=>whnf
 refine Z5 ?_
 refine YJ h (fun h=>?_) (fun h=>?_)
 conv=>whnf
 cases h
 exact hK
 conv=>whnf
 refine Zx h (fun h=>?_) (fun h=>?_)
 conv=>whnf
 refine Zk h (fun l01In2 hb3 h=>?_)
 conv=>whnf
 refine YJ h (fun h=>?_) (fun h=>?_)
 conv=>whnf
 refine Zk h (fun l03Tables0 hb4 h=>?_)
 conv=>whnf
 refine YJ h (fun h=>?_) (fun h=>?_)
 conv=>whnf
 refine Zk h (fun l03Tables1 hb5 h=>?_)
 conv=>whnf
 cases h
 exact hK
 conv=>whnf
 cases h
 exact hK
 conv=>whnf
 cases h
 exact hK
 conv=>whnf
 cases h
 exact hK
 conv=>whnf
 refine Zx h (fun h=>?_) (fun h=>?_)
 conv=>whnf
 refine Zx h (fun h=>?_) (fun h=>?_)
 conv=>whnf
 refine YJ h (fun h=>?_) (fun h=>?_)
 conv=>whnf
 refine Zx h (fun h=>?_) (fun h=>?_)
 conv=>whnf
 refine Zx h (fun h=>?_) (fun h=>?_)
 conv=>whnf
 refine Zk h (fun l03Tables0 hb6 h=>?_)
 conv=>whnf
 refine YJ h (fun h=>?_) (fun h=>?_)
 conv=>whnf
 refine Zk h (fun l03Tables1 hb7 h=>?_)
 conv=>whnf
 cases h
 exact hK
 conv=>whnf
 cases h
 exact hK
 conv=>whnf
 cases h
 exact hK
 conv=>whnf
 cases h
 exact hK
 conv=>whnf
 cases h
 exact hK
 conv=>whnf
 refine Zx h (fun h=>?_) (fun h=>?_)
 conv=>whnf
 refine Zx h (fun h=>?_) (fun h=>?_)
 conv=>whnf
 refine YJ h (fun h=>?_) (fun h=>?_)
 conv=>whnf
 refine Zx h (fun h=>?_) (fun h=>?_)
 conv=>whnf
 refine vAt h (fun x1 he8a he8b he8x h=>?_)
 conv=>whnf
 refine Z5 ?_
 refine YJ h (fun h=>?_) (fun h=>?_)
 conv=>whnf
 cases h
 exact hK
 conv=>whnf
 refine Zx h (fun h=>?_) (fun h=>?_)
 conv=>whnf
 refine Zk h (fun l03Tables0 hb9 h=>?_)
 conv=>whnf
 refine YJ h (fun h=>?_) (fun h=>?_)
 conv=>whnf
 cases h
 exact hK
 conv=>whnf
 cases h
 exact hK
 conv=>whnf
 cases h
 exact hK
 conv=>whnf
 cases h
 exact hK
 conv=>whnf
 cases h
 exact hK
 conv=>whnf
 cases h
 exact hK
 conv=>whnf
 refine Zx h (fun h=>?_) (fun h=>?_)
 conv=>whnf
 refine YJ h (fun h=>?_) (fun h=>?_)
 conv=>whnf
 refine Zx h (fun h=>?_) (fun h=>?_)
 conv=>whnf
 refine vAt h (fun x1 he10a he10b he10x h=>?_)
 conv=>whnf
 refine Z5 ?_
 refine YJ h (fun h=>?_) (fun h=>?_)
 conv=>whnf
 cases h
 exact hK
 conv=>whnf
 refine Zx h (fun h=>?_) (fun h=>?_)
 conv=>whnf
 refine Zk h (fun l03Tables0 hb11 h=>?_)
 conv=>whnf
 refine YJ h (fun h=>?_) (fun h=>?_)
 conv=>whnf
 cases h
 exact hK
 conv=>whnf
 cases h
 exact hK
 conv=>whnf
 cases h
 exact hK
 conv=>whnf
 cases h
 exact hK
 conv=>whnf
 cases h
 exact hK
 conv=>whnf
 cases h
 exact hK
 conv=>whnf
 refine Zx h (fun h=>?_) (fun h=>?_)
 conv=>whnf
 refine YJ h (fun h=>?_) (fun h=>?_)
 conv=>whnf
 refine Zx h (fun h=>?_) (fun h=>?_)
 conv=>whnf
 refine Zx h (fun h=>?_) (fun h=>?_)
 conv=>whnf
 refine Zk h (fun l03Tables0 hb12 h=>?_)
 conv=>whnf
 refine YJ h (fun h=>?_) (fun h=>?_)
 conv=>whnf
 refine Zk h (fun l03Tables1 hb13 h=>?_)
 conv=>whnf
 cases h
 exact hK
 conv=>whnf
 cases h
 exact hK
 conv=>whnf
 cases h
 exact hK
 conv=>whnf
 cases h
 exact hK
 conv=>whnf
 cases h
 exact hK
 conv=>whnf
 refine Zx h (fun h=>?_) (fun h=>?_)
 conv=>whnf
 refine Zx h (fun h=>?_) (fun h=>?_)
 conv=>whnf
 refine YJ h (fun h=>?_) (fun h=>?_)
 conv=>whnf
 refine Zx h (fun h=>?_) (fun h=>?_)
 conv=>whnf
 refine vAt h (fun x1 he14a he14b he14x h=>?_)
 conv=>whnf
 refine Z5 ?_
 refine YJ h (fun h=>?_) (fun h=>?_)
 conv=>whnf
 cases h
 exact hK
 conv=>whnf
 refine Zx h (fun h=>?_) (fun h=>?_)
 conv=>whnf
 refine Zk h (fun l03Tables0 hb15 h=>?_)
 conv=>whnf
 refine YJ h (fun h=>?_) (fun h=>?_)
 conv=>whnf
 cases h
 exact hK
 conv=>whnf
 cases h
 exact hK
 conv=>whnf
 cases h
 exact hK
 conv=>whnf
 cases h
 exact hK
 conv=>whnf
 cases h
 exact hK
 conv=>whnf
 cases h
 exact hK
 conv=>whnf
 refine Zx h (fun h=>?_) (fun h=>?_)
 conv=>whnf
 refine YJ h (fun h=>?_) (fun h=>?_)
 conv=>whnf
 refine Zx h (fun h=>?_) (fun h=>?_)
 conv=>whnf
 refine vAt h (fun x1 he16a he16b he16x h=>?_)
 conv=>whnf
 refine Z5 ?_
 refine YJ h (fun h=>?_) (fun h=>?_)
 conv=>whnf
 cases h
 exact hK
 conv=>whnf
 refine Zx h (fun h=>?_) (fun h=>?_)
 conv=>whnf
 refine Zk h (fun l03Tables0 hb17 h=>?_)
 conv=>whnf
 refine YJ h (fun h=>?_) (fun h=>?_)
 conv=>whnf
 cases h
 exact hK
 conv=>whnf
 cases h
 exact hK
 conv=>whnf
 cases h
 exact hK
 conv=>whnf
 cases h
 exact hK
 conv=>whnf
 cases h
 exact hK
 conv=>whnf
 cases h
 exact hK
 conv=>whnf
 cases h
 exact hK
 conv=>whnf
 cases h
 exact hK
theorem w50:Zc Tryz.prog 241 c50:=by
 refine Zg Zq Zj mixed {loops:=[(0,[.reg 4 (.dat (.int .i64)),.ent 1 (nat_lit 2) (.flat Ztr.ety)])]} (fn:=Tryz.f241) Tryz.func241 (by kernel_rfl) (by kernel_rfl) ?_
 rintro ⟨c0,⟨⟩⟩ K ⟨r,h,hK⟩
 change Zcr c0=some r at h
 unfold Zcr at h
 conv=>whnf
 refine ⟨by decide,?_⟩
 conv=>whnf
 refine ⟨by decide,?_⟩
 conv=>whnf
 refine ⟨by decide,?_⟩
 conv=>whnf
 refine ⟨by decide,?_⟩
 conv=>whnf
 refine Yk h ?_
 rintro I0 μ0 ⟨i0,l0,⟨⟩⟩ zs0 h hI0 hR0
 change VB c0 i0 l0=some zs0 at h
 unfold VB at h
 conv=>whnf
 refine Zx h (fun h=>?_) (fun h=>?_)
 conv=>whnf
 refine vAt h (fun x0 he1a he1b he1x h=>?_)
 conv=>whnf
 refine vAt h (fun x1 he2a he2b he2x h=>?_)
 conv=>whnf
 refine ⟨by kernel_rfl,?_⟩
 conv=>whnf
 refine ⟨he2a,he2b,Zo he2x ?_⟩
 conv=>whnf
 refine ⟨he2a,he2b,Zo he2x ?_⟩
 conv=>whnf
 refine ⟨by kernel_rfl,?_⟩
 conv=>whnf
 refine ⟨by decide,?_⟩
 conv=>whnf
 refine ⟨he2a,he2b,Zo he2x ?_⟩
 conv=>whnf
 cases h
 exact ⟨⟨rfl,rfl⟩,hI0 _ rfl⟩
 conv=>whnf
 cases h
 obtain rfl:=hR0 _ rfl
 exact hK
theorem w56:Zc Tryz.prog 134 c56:=by
 refine Zg Zq Zj mixed {loops:=[(0,[.reg 3 (.own (.ol 189 (.flat (Zfw)))),.reg 4 (.dat (.int .i64))]),(2,[.reg 3 (.own (.ol 189 (.flat (Zfw)))),.reg 6 (.dat (.int .i64))]),(4,[.reg 3 (.own (.ol 189 (.flat (Zfw)))),.reg 7 (.dat (.int .i64))])],draws:=[(13,[0,0,0,4,0,28,60,124,0,256,0,1792,3840,7936,16128,32766,65534,131071,262143],.op 0 (.op 1 (.op 2 (.op 3 (.op 4 (.op 5 (.op 6 (.op 7 (.op 8 (.op 9 (.op 10 (.op 11 (.op 12 (.op 13 (.op 14 (.op 15 (.alt 16 (.alt 17 (.op 18 (.done)) (.done)) (.done))))))))))))))))))]} (fn:=Tryz.f134) Tryz.func134 (by kernel_rfl) (by kernel_rfl) ?_
 rintro ⟨a0,⟨⟩⟩ K ⟨r,h,hK⟩
 change XA a0=some r at h
 unfold XA at h
 conv=>whnf
 refine Yk h ?_
 rintro I0 μ0 ⟨v0,v1,⟨⟩⟩ zs0 h hI0 hR0
 change Jl a0 v0 v1=some zs0 at h
 unfold Jl at h
 conv=>whnf
 refine Zx h (fun h=>?_) (fun h=>?_)
 conv=>whnf
 refine vAt h (fun x0 he1a he1b he1x h=>?_)
 conv=>whnf
 refine Yk h ?_
 rintro I2 μ2 ⟨v2,v3,⟨⟩⟩ zs2 h hI2 hR2
 change Jf v1 x0 v2 v3=some zs2 at h
 unfold Jf at h
 conv=>whnf
 refine Zx h (fun h=>?_) (fun h=>?_)
 conv=>whnf
 refine vAt h (fun x1 he3a he3b he3x h=>?_)
 conv=>whnf
 refine QJ h (fun hp4 h=>?_)
 conv=>whnf
 cases h
 exact ⟨⟨rfl,rfl⟩,hI2 _ rfl⟩
 conv=>whnf
 cases h
 obtain rfl:=hR2 _ rfl
 exact ⟨⟨rfl,rfl⟩,hI0 _ rfl⟩
 conv=>whnf
 refine Yk h ?_
 rintro I5 μ5 ⟨v2,v3,⟨⟩⟩ zs5 h hI5 hR5
 change Ji a0 v2 v3=some zs5 at h
 unfold Ji at h
 conv=>whnf
 refine Zx h (fun h=>?_) (fun h=>?_)
 conv=>whnf
 refine ⟨by kernel_rfl,?_⟩
 conv=>whnf
 refine vAt h (fun x0 he6a he6b he6x h=>?_)
 conv=>whnf
 refine ⟨he6a,he6b,Zo he6x ?_⟩
 conv=>whnf
 refine QJ h (fun hp7 h=>?_)
 conv=>whnf
 refine ⟨trivial,?_⟩
 conv=>whnf
 cases h
 exact ⟨⟨rfl,rfl⟩,hI5 _ rfl⟩
 conv=>whnf
 cases h
 obtain rfl:=hR5 _ rfl
 obtain rfl:=hR0 _ rfl
 exact hK
theorem w57 (q0:Zc Tryz.prog 134 c56):Zc Tryz.prog 82 c57:=by
 refine Zg Zq (Ze q0 Zj) mixed {loops:=[(0,[.reg 5 (.own (.ol 2 (.flat (.int .i64)))),.reg 7 (.dat (.int .i64))])]} (fn:=Tryz.f82) Tryz.func82 (by kernel_rfl) (by kernel_rfl) ?_
 rintro ⟨d0,net0,⟨⟩⟩ K ⟨r,h,hK⟩
 change Qe d0 net0=some r at h
 unfold Qe at h
 conv=>whnf
 refine Zk h (fun l05Places0 hb0 h=>?_)
 conv=>whnf
 refine Yk h ?_
 rintro I1 μ1 ⟨out0,i0,⟨⟩⟩ zs1 h hI1 hR1
 change J6 net0 l05Places0 out0 i0=some zs1 at h
 unfold J6 at h
 conv=>whnf
 refine Zx h (fun h=>?_) (fun h=>?_)
 conv=>whnf
 refine vAt h (fun x0 he2a he2b he2x h=>?_)
 conv=>whnf
 refine ⟨by kernel_rfl,?_⟩
 conv=>whnf
 refine ⟨he2a,he2b,Zo he2x ?_⟩
 conv=>whnf
 refine Zx h (fun h=>?_) (fun h=>?_)
 conv=>whnf
 refine ⟨he2a,he2b,Zo he2x ?_⟩
 conv=>whnf
 refine ⟨by kernel_rfl,?_⟩
 conv=>whnf
 refine ⟨he2a,he2b,Zo he2x ?_⟩
 conv=>whnf
 refine Z5 ?_
 refine YJ h (fun h=>?_) (fun h=>?_)
 conv=>whnf
 cases h
 exact ⟨⟨rfl,rfl⟩,hI1 _ rfl⟩
 conv=>whnf
 refine QJ h (fun hp3 h=>?_)
 conv=>whnf
 cases h
 exact ⟨⟨rfl,rfl⟩,hI1 _ rfl⟩
 conv=>whnf
 cases h
 exact ⟨⟨rfl,rfl⟩,hI1 _ rfl⟩
 conv=>whnf
 cases h
 obtain rfl:=hR1 _ rfl
 exact hK
theorem w82 (q0:Zc Tryz.prog 82 c57):Zc Tryz.prog 151 c82:=by
 refine Zg YQ (Ze q0 Zj) mixed {loops:=[(0,[.reg 5 (.dat (.int .i64)),.ent 4 (nat_lit 72) (Dp.pair (Dp.ol (2:Go.TypeId) (Dp.flat (Ty.int IntKind.i64))) (Dp.pair (Dp.ol (2:Go.TypeId) (Dp.flat (Ty.int IntKind.i64))) (Dp.pair (Dp.ol (2:Go.TypeId) (Dp.flat (Ty.int IntKind.i64))) (Dp.pair (Dp.ol (2:Go.TypeId) (Dp.flat (Ty.int IntKind.i64))) (Dp.flat Ty.unit)))))]),(2,[.reg 6 (.own (.ol 2 (.flat (.int .i64)))),.reg 8 (.dat (.int .i64))])]} (fn:=Tryz.f151) Tryz.func151 (by kernel_rfl) (by kernel_rfl) ?_
 rintro ⟨b0,nodes0,⟨⟩⟩ K ⟨r,h,hK⟩
 change X7 b0 nodes0=some r at h
 unfold X7 at h
 conv=>whnf
 intro fp0
 conv=>whnf
 intro fp1
 conv=>whnf
 intro fp2
 conv=>whnf
 refine Yk h ?_
 rintro I3 μ3 ⟨net0,l0,⟨⟩⟩ zs3 h hI3 hR3
 change Q7 b0 nodes0 net0 l0=some zs3 at h
 unfold Q7 at h
 conv=>whnf
 intro fp4
 conv=>whnf
 refine Zx h (fun h=>?_) (fun h=>?_)
 conv=>whnf
 refine Zk h (fun l05Sinks0 hb5 h=>?_)
 conv=>whnf
 refine Yk h ?_
 rintro I6 μ6 ⟨list0,i0,⟨⟩⟩ zs6 h hI6 hR6
 change Jk nodes0 net0 l0 l05Sinks0 list0 i0=some zs6 at h
 unfold Jk at h
 conv=>whnf
 refine Zx h (fun h=>?_) (fun h=>?_)
 conv=>whnf
 refine vAt h (fun x0 he7a he7b he7x h=>?_)
 conv=>whnf
 refine ⟨by kernel_rfl,?_⟩
 conv=>whnf
 refine ⟨he7a,he7b,Zo he7x ?_⟩
 conv=>whnf
 refine vAt h (fun x1 he8a he8b he8x h=>?_)
 conv=>whnf
 refine QJ h (fun hp9 h=>?_)
 conv=>whnf
 cases h
 exact ⟨⟨rfl,rfl⟩,hI6 _ rfl⟩
 conv=>whnf
 refine vAt h (fun x0 he10a he10b he10x h=>?_)
 conv=>whnf
 refine ⟨he10a,he10b,Zo he10x ?_⟩
 conv=>whnf
 intro fp11
 conv=>whnf
 cases h
 obtain rfl:=hR6 _ rfl
 exact ⟨⟨rfl,rfl⟩,hI3 _ rfl⟩
 conv=>whnf
 cases h
 obtain rfl:=hR3 _ rfl
 exact hK
end Go.Proofs.YtfndhpjedmopdaaGreatDoor
