/-
  The functions keep their contracts, if what they call does. Printed by program.
-/
import Derived.Test.YtehkanadahncgaaGreatDoorM
import Derived.KernelRfl
namespace Go.Proofs.YtehkanadahncgaaGreatDoor
open Go Go.Sx
set_option maxRecDepth 100000
set_option maxHeartbeats 3200000
set_option linter.unusedVariables false
set_option linter.unusedSimpArgs false
theorem ZzM (q0:Zc Tryz.prog 149 c148) (q1:Zc Tryz.prog 150 c152) (q2:Zc Tryz.prog 107 ZvL):Zc Tryz.prog 90 c154:=by
 refine Zg YO (Ze q0 (Ze q1 (Ze q2 Zj))) mixed {loops:=[(0,[.reg 16 (.dat (.int .i64)),.cello 1003 4 (.ol 64 (Zha))])],draws:=[(1,[0,1,3,0,8,31,63,0,255],.op 0 (.op 1 (.op 3 (.op 4 (.alt 2 (.alt 5 (.op 6 (.alt 7 (.alt 8 (.done) (.done)) (.done))) (.alt 7 (.alt 5 (.op 6 (.alt 8 (.done) (.done))) (.done)) (.done))) (.alt 7 (.alt 2 (.alt 5 (.op 6 (.alt 8 (.done) (.done))) (.done)) (.done)) (.done))))))),(5,[0,1,0,4,12,31,63,127],.op 0 (.op 1 (.op 2 (.alt 3 (.alt 4 (.alt 5 (.op 6 (.alt 7 (.done) (.done))) (.done)) (.done)) (.done)))))]} (fn:=Tryz.f90) Tryz.func90 (by kernel_rfl) (by kernel_rfl) ?_
 rintro ⟨b0,⟨⟩⟩ K ⟨r,h,hK⟩
 change QT b0=some r at h
 unfold QT at h
 focus
  conv=>whnf
  refine ⟨by kernel_rfl,?_⟩
  conv=>whnf
  obtain ⟨cloneLibrary0,hb0,h⟩:=Option.bind_eq_some_iff.1 h
  obtain ⟨clone0,hb2,h⟩:=Option.bind_eq_some_iff.1 h
  refine ⟨?_,?_⟩
  rotate_left
  focus
   conv=>whnf
   refine ⟨_,hb0,?_⟩
   conv=>whnf
   intro fp12
   conv=>whnf
   refine ⟨_,hb2,?_⟩
   conv=>whnf
   intro fp13
   conv=>whnf
   refine ⟨trivial,?_⟩
  rotate_right
  focus
   conv=>whnf
   refine ⟨_,hb0,?_⟩
   conv=>whnf
   intro fp12
   conv=>whnf
   refine ⟨?_,?_⟩
   rotate_left
   focus
    conv=>whnf
    refine ⟨_,hb2,?_⟩
    conv=>whnf
    intro fp13
    conv=>whnf
    refine ⟨trivial,?_⟩
   rotate_right
   focus
    conv=>whnf
    refine ⟨_,hb2,?_⟩
    conv=>whnf
    intro fp13
    conv=>whnf
    refine ⟨trivial,?_⟩
  all_goals
   conv=>whnf
   refine Yj h ?_
   rintro I4 μ4 ⟨v0,c0,⟨⟩⟩ zs4 h hI4 hR4
   change XO b0 cloneLibrary0 clone0 v0 c0=some zs4 at h
   unfold XO at h
   conv=>whnf
   intro fp5
   conv=>whnf
   refine Zz h (fun h=>?_) (fun h=>?_)
   conv=>whnf
   refine vAt h (fun x0 he6a he6b he6x h=>?_)
   conv=>whnf
   refine ⟨by kernel_rfl,?_⟩
   conv=>whnf
   refine Zl h (fun clone1 hb7 h=>?_)
   conv=>whnf
   intro fp8
   conv=>whnf
   refine Qt h (fun hp9 h=>?_)
   conv=>whnf
   intro fp10
   conv=>whnf
   refine ⟨trivial,?_⟩
   conv=>whnf
   cases h
   exact ⟨⟨rfl,rfl⟩,hI4 _ rfl⟩
   conv=>whnf
   cases h
   obtain rfl:=hR4 _ rfl
   exact hK
theorem ZAj (q0:Zc Tryz.prog 104 Zvz) (q1:Zc Tryz.prog 70 Zra) (q2:Zc Tryz.prog 156 c130) (q4:Zc Tryz.prog 158 c173) (q5:Zc Tryz.prog 105 ZvR) (q3:Zc Tryz.prog 106 c175):Zc Tryz.prog 103 ZwV:=by
 refine Zg Ztg (Ze q0 (Ze q1 (Ze q2 (Ze q4 (Ze q5 (Ze q3 Zj)))))) mixed {draws:=[(4,[0,0,2,6,14,0,32,96,224,480,992,2016,4094,8190,16382,32767,65535,0,262143],.op 0 (.op 1 (.op 2 (.op 3 (.op 4 (.op 5 (.op 6 (.op 7 (.op 8 (.op 9 (.alt 10 (.op 11 (.alt 12 (.op 13 (.op 14 (.op 15 (.op 16 (.alt 17 (.alt 18 (.done) (.done)) (.done)))))) (.alt 17 (.alt 12 (.op 13 (.op 14 (.op 15 (.op 16 (.alt 18 (.done) (.done)))))) (.done)) (.done)))) (.alt 17 (.alt 10 (.op 11 (.alt 12 (.op 13 (.op 14 (.op 15 (.op 16 (.alt 18 (.done) (.done)))))) (.done))) (.done)) (.done))))))))))))),(6,[0,0,0,0,8,28,63],.op 0 (.op 2 (.op 3 (.op 4 (.alt 1 (.alt 5 (.alt 6 (.done) (.done)) (.done)) (.alt 5 (.alt 1 (.alt 6 (.done) (.done)) (.done)) (.done))))))),(7,[0,0,0,4,12,28,60,0,252,508,1020,2044,4092,8191],.op 0 (.op 1 (.op 2 (.op 3 (.op 4 (.op 5 (.op 6 (.op 7 (.op 8 (.op 9 (.op 10 (.op 11 (.op 12 (.alt 13 (.done) (.done))))))))))))))),(9,[0,0,2,6,14,30,0,64,192,448,960,1984,4032,8190,16383,32767,65535,131071],.op 0 (.op 1 (.op 2 (.op 3 (.op 4 (.op 5 (.op 6 (.op 7 (.op 8 (.op 9 (.op 10 (.op 11 (.op 12 (.alt 13 (.op 14 (.op 15 (.op 16 (.alt 17 (.done) (.done))))) (.done))))))))))))))),(10,[0,0,2,6,14,0,32,96,224,480,992,2046,4095,8191,16383],.op 0 (.op 1 (.op 2 (.op 3 (.op 4 (.op 5 (.op 6 (.op 7 (.op 8 (.op 9 (.op 10 (.alt 11 (.op 12 (.op 13 (.alt 14 (.done) (.done)))) (.done)))))))))))))]} (fn:=Tryz.f103) Tryz.func103 (by kernel_rfl) (by kernel_rfl) ?_
 rintro ⟨a0,⟨⟩⟩ K ⟨r,h,hK⟩
 change X6 a0=some r at h
 unfold X6 at h
 focus
  conv=>whnf
  intro fp0
  conv=>whnf
  intro fp1
  conv=>whnf
  intro fp2
  conv=>whnf
  refine Zl h (fun nodesOf0 hb3 h=>?_)
  conv=>whnf
  refine Zl h (fun places0 hb4 h=>?_)
  conv=>whnf
  refine ⟨by kernel_rfl,?_⟩
  conv=>whnf
  obtain ⟨string0,hb5,h⟩:=Option.bind_eq_some_iff.1 h
  obtain ⟨sinks0,hb6,h⟩:=Option.bind_eq_some_iff.1 h
  obtain ⟨x0,he7a,he7b,he7x,h⟩:=atE h
  obtain ⟨x1,he8a,he8b,he8x,h⟩:=atE h
  refine ⟨?_,?_⟩
  rotate_left
  focus
   conv=>whnf
   refine ⟨_,hb5,?_⟩
   conv=>whnf
   refine ⟨_,hb6,?_⟩
   conv=>whnf
   refine ⟨he7a,he7b,Zp he7x ?_⟩
   conv=>whnf
   refine ⟨by kernel_rfl,?_⟩
   conv=>whnf
   refine ⟨he7a,he7b,Zp he7x ?_⟩
   conv=>whnf
   refine ⟨he8a,he8b,Zp he8x ?_⟩
   conv=>whnf
   refine ⟨by kernel_rfl,?_⟩
   conv=>whnf
   refine ⟨he8a,he8b,Zp he8x ?_⟩
   conv=>whnf
   refine ⟨trivial,?_⟩
  rotate_right
  focus
   conv=>whnf
   refine ⟨_,hb5,?_⟩
   conv=>whnf
   refine ⟨?_,?_⟩
   rotate_left
   focus
    conv=>whnf
    refine ⟨_,hb6,?_⟩
    conv=>whnf
    refine ⟨he7a,he7b,Zp he7x ?_⟩
    conv=>whnf
    refine ⟨by kernel_rfl,?_⟩
    conv=>whnf
    refine ⟨he7a,he7b,Zp he7x ?_⟩
    conv=>whnf
    refine ⟨he8a,he8b,Zp he8x ?_⟩
    conv=>whnf
    refine ⟨by kernel_rfl,?_⟩
    conv=>whnf
    refine ⟨he8a,he8b,Zp he8x ?_⟩
    conv=>whnf
    refine ⟨trivial,?_⟩
   rotate_right
   focus
    conv=>whnf
    refine ⟨_,hb6,?_⟩
    conv=>whnf
    refine ⟨he7a,he7b,Zp he7x ?_⟩
    conv=>whnf
    refine ⟨by kernel_rfl,?_⟩
    conv=>whnf
    refine ⟨he7a,he7b,Zp he7x ?_⟩
    conv=>whnf
    refine ⟨he8a,he8b,Zp he8x ?_⟩
    conv=>whnf
    refine ⟨by kernel_rfl,?_⟩
    conv=>whnf
    refine ⟨he8a,he8b,Zp he8x ?_⟩
    conv=>whnf
    refine ⟨trivial,?_⟩
  all_goals
   focus
    conv=>whnf
    refine ⟨by kernel_rfl,?_⟩
    conv=>whnf
    refine ⟨?_,?_⟩
    rotate_left
    focus
     conv=>whnf
     refine ⟨trivial,?_⟩
    rotate_right
    focus
     conv=>whnf
     refine ⟨trivial,?_⟩
    all_goals
     conv=>whnf
     refine ⟨by kernel_rfl,?_⟩
     conv=>whnf
     refine vAt h (fun x2 he9a he9b he9x h=>?_)
     conv=>whnf
     refine ⟨he9a,he9b,Zp he9x ?_⟩
     conv=>whnf
     intro fp10
     conv=>whnf
     refine vAt h (fun x3 he11a he11b he11x h=>?_)
     conv=>whnf
     refine ⟨by kernel_rfl,?_⟩
     conv=>whnf
     refine ⟨he11a,he11b,Zp he11x ?_⟩
     conv=>whnf
     refine Zl h (fun setNet0 hb12 h=>?_)
     conv=>whnf
     intro fp13
     conv=>whnf
     intro fp14
     conv=>whnf
     intro fp15
     conv=>whnf
     refine ⟨trivial,?_⟩
     conv=>whnf
     refine ⟨by decide,?_⟩
     conv=>whnf
     refine Qt h (fun hp16 h=>?_)
     conv=>whnf
     refine Qt h (fun hp17 h=>?_)
     conv=>whnf
     intro fp18
     conv=>whnf
     refine ⟨by kernel_rfl,?_⟩
     conv=>whnf
     refine ⟨by decide,?_⟩
     conv=>whnf
     refine Qt h (fun hp19 h=>?_)
     conv=>whnf
     refine Qt h (fun hp20 h=>?_)
     conv=>whnf
     refine ⟨trivial,?_⟩
     conv=>whnf
     refine ⟨by kernel_rfl,?_⟩
     conv=>whnf
     refine ⟨by decide,?_⟩
     conv=>whnf
     refine Qt h (fun hp21 h=>?_)
     conv=>whnf
     refine Qt h (fun hp22 h=>?_)
     conv=>whnf
     intro fp23
     conv=>whnf
     refine ⟨trivial,?_⟩
     conv=>whnf
     refine Zl h (fun connect0 hb24 h=>?_)
     conv=>whnf
     intro fp25
     conv=>whnf
     intro fp26
     conv=>whnf
     intro fp27
     conv=>whnf
     cases h
     exact hK
theorem ZzT (q0:Zc Tryz.prog 217 c93):Zc Tryz.prog 184 c168:=by
 refine Zg Zr (Ze q0 Zj) mixed {} (fn:=Tryz.f184) Tryz.func184 (by kernel_rfl) (by kernel_rfl) ?_
 rintro ⟨d0,name0,⟨⟩⟩ K ⟨r,h,hK⟩
 change QJ d0 name0=some r at h
 unfold QJ at h
 conv=>whnf
 refine Zl h (fun string0 hb0 h=>?_)
 conv=>whnf
 cases h
 exact hK
theorem ZAS:Zc Tryz.prog 173 Zw9:=by
 refine Zg Zr Zj mixed {} (fn:=Tryz.f173) Tryz.func173 (by kernel_rfl) (by kernel_rfl) ?_
 rintro ⟨p0,a0,a1,⟨⟩⟩ K ⟨r,h,hK⟩
 change XP p0 a0 a1=some r at h
 unfold XP at h
 conv=>whnf
 refine Zz h (fun h=>?_) (fun h=>?_)
 conv=>whnf
 cases h
 exact hK
 conv=>whnf
 cases h
 exact hK
theorem ZzJ (q6:Zc Tryz.prog 90 c154) (q1:Zc Tryz.prog 70 Zra) (q4:Zc Tryz.prog 102 c182) (q0:Zc Tryz.prog 103 ZwV) (q2:Zc Tryz.prog 104 Zvz) (q5:Zc Tryz.prog 105 ZvR) (q3:Zc Tryz.prog 106 c175) (q7:Zc Tryz.prog 107 ZvL):Zc Tryz.prog 54 c183:=by
 refine Zg YO (Ze q6 (Ze q1 (Ze q4 (Ze q0 (Ze q2 (Ze q5 (Ze q3 (Ze q7 Zj)))))))) mixed {draws:=[(4,[0,1,3,0,8,24,0,64,248,504,1016,0,2048,8191,16383,32767],.op 0 (.op 1 (.op 2 (.op 3 (.op 4 (.op 6 (.op 7 (.op 11 (.op 12 (.alt 5 (.op 8 (.op 9 (.op 10 (.op 13 (.op 14 (.alt 15 (.done) (.done))))))) (.done))))))))))),(11,[0,1,3,0,8,31,63,0,255],.op 0 (.op 1 (.op 3 (.op 4 (.alt 2 (.op 5 (.op 6 (.alt 7 (.alt 8 (.done) (.done)) (.done)))) (.alt 7 (.alt 2 (.op 5 (.op 6 (.alt 8 (.done) (.done)))) (.done)) (.done))))))),(17,[0,1,0,4,0,16,48,127,255],.op 0 (.op 1 (.op 2 (.op 3 (.op 4 (.op 5 (.alt 6 (.op 7 (.alt 8 (.done) (.done))) (.done))))))))]} (fn:=Tryz.f54) Tryz.func54 (by kernel_rfl) (by kernel_rfl) ?_
 rintro ⟨a0,a1,⟨⟩⟩ K ⟨r,h,hK⟩
 change Vx a0 a1=some r at h
 unfold Vx at h
 conv=>whnf
 refine Zl h (fun clone0 hb0 h=>?_)
 conv=>whnf
 intro fp1
 conv=>whnf
 intro fp2
 conv=>whnf
 intro fp3
 conv=>whnf
 refine Zz h (fun h=>?_) (fun h=>?_)
 conv=>whnf
 refine ⟨by kernel_rfl,?_⟩
 conv=>whnf
 refine Zl h (fun places0 hb4 h=>?_)
 conv=>whnf
 refine vAt h (fun x0 he5a he5b he5x h=>?_)
 conv=>whnf
 refine ⟨by kernel_rfl,?_⟩
 conv=>whnf
 refine ⟨he5a,he5b,Zp he5x ?_⟩
 conv=>whnf
 refine vAt h (fun x1 he6a he6b he6x h=>?_)
 conv=>whnf
 refine ⟨he6a,he6b,Zp he6x ?_⟩
 conv=>whnf
 intro fp7
 conv=>whnf
 refine ⟨trivial,?_⟩
 conv=>whnf
 cases h
 exact hK
 conv=>whnf
 refine Zz h (fun h=>?_) (fun h=>?_)
 conv=>whnf
 refine Zl h (fun buffer0 hb8 h=>?_)
 conv=>whnf
 intro fp9
 conv=>whnf
 intro fp10
 conv=>whnf
 intro fp11
 conv=>whnf
 cases h
 exact hK
 conv=>whnf
 refine Zz h (fun h=>?_) (fun h=>?_)
 conv=>whnf
 refine Zl h (fun unbuffer0 hb12 h=>?_)
 conv=>whnf
 intro fp13
 conv=>whnf
 intro fp14
 conv=>whnf
 intro fp15
 conv=>whnf
 cases h
 exact hK
 conv=>whnf
 refine Zz h (fun h=>?_) (fun h=>?_)
 focus
  conv=>whnf
  refine Zl h (fun nodesOf0 hb16 h=>?_)
  conv=>whnf
  refine ⟨by kernel_rfl,?_⟩
  conv=>whnf
  obtain ⟨places0,hb17,h⟩:=Option.bind_eq_some_iff.1 h
  obtain ⟨x0,he18a,he18b,he18x,h⟩:=atE h
  refine ⟨?_,?_⟩
  rotate_left
  focus
   conv=>whnf
   refine ⟨_,hb17,?_⟩
   conv=>whnf
   refine ⟨he18a,he18b,Zp he18x ?_⟩
   conv=>whnf
   refine ⟨by kernel_rfl,?_⟩
   conv=>whnf
   refine ⟨he18a,he18b,Zp he18x ?_⟩
   conv=>whnf
   refine ⟨trivial,?_⟩
  rotate_right
  focus
   conv=>whnf
   refine ⟨_,hb17,?_⟩
   conv=>whnf
   refine ⟨he18a,he18b,Zp he18x ?_⟩
   conv=>whnf
   refine ⟨by kernel_rfl,?_⟩
   conv=>whnf
   refine ⟨he18a,he18b,Zp he18x ?_⟩
   conv=>whnf
   refine ⟨trivial,?_⟩
  all_goals
   conv=>whnf
   refine Zl h (fun setNet0 hb19 h=>?_)
   conv=>whnf
   intro fp20
   conv=>whnf
   intro fp21
   conv=>whnf
   intro fp22
   conv=>whnf
   refine Zl h (fun connect0 hb23 h=>?_)
   conv=>whnf
   intro fp24
   conv=>whnf
   intro fp25
   conv=>whnf
   intro fp26
   conv=>whnf
   cases h
   exact hK
 conv=>whnf
 refine Zz h (fun h=>?_) (fun h=>?_)
 conv=>whnf
 refine ⟨by kernel_rfl,?_⟩
 conv=>whnf
 refine Zl h (fun clone1 hb27 h=>?_)
 conv=>whnf
 refine vAt h (fun x0 he28a he28b he28x h=>?_)
 conv=>whnf
 refine ⟨he28a,he28b,Zp he28x ?_⟩
 conv=>whnf
 intro fp29
 conv=>whnf
 refine ⟨trivial,?_⟩
 conv=>whnf
 cases h
 exact hK
 conv=>whnf
 cases h
 exact hK
theorem Zzv (q2:Zc Tryz.prog 70 Zra) (q5:Zc Tryz.prog 180 ZyD) (q6:Zc Tryz.prog 181 c164) (q7:Zc Tryz.prog 182 c91) (q3:Zc Tryz.prog 183 c167) (q1:Zc Tryz.prog 184 c168) (q0:Zc Tryz.prog 185 ZxX) (q4:Zc Tryz.prog 136 c98) (q8:Zc Tryz.prog 71 Zwq):Zc Tryz.prog 129 Zyl:=by
 refine Zg Zr (Ze q2 (Ze q5 (Ze q6 (Ze q7 (Ze q3 (Ze q1 (Ze q0 (Ze q4 (Ze q8 Zj))))))))) mixed {draws:=[(6,[0,1,3,7,15,31,63,127,255,511,1023,255,2303,255,8447,30975,63743,129279,262143,524287,255,1048831,3145983,255,8388863,32506111,66060543,134217727,268435455,536870911],.op 0 (.op 1 (.op 2 (.op 3 (.op 4 (.op 5 (.op 6 (.op 7 (.op 8 (.op 9 (.op 10 (.op 11 (.op 12 (.op 13 (.op 14 (.op 15 (.op 16 (.op 17 (.op 18 (.op 19 (.op 20 (.op 21 (.op 22 (.op 23 (.op 24 (.op 25 (.op 26 (.alt 27 (.op 28 (.op 29 (.done))) (.done))))))))))))))))))))))))))))),(12,[0,0,2,7,15,31,63,127,255,255,767,2047,4095,8191,255,16639,65535,131071,262143],.op 0 (.op 1 (.op 2 (.op 3 (.op 4 (.op 5 (.op 6 (.op 7 (.op 8 (.op 9 (.op 10 (.op 11 (.op 12 (.op 13 (.op 14 (.op 15 (.op 16 (.op 17 (.op 18 (.done)))))))))))))))))))),(13,[0,1,0,4,0,16,60,124,252,508,1023,2047],.op 0 (.op 1 (.op 2 (.op 3 (.op 4 (.op 5 (.op 6 (.op 7 (.op 8 (.alt 9 (.alt 10 (.op 11 (.done)) (.done)) (.done)))))))))))]} (fn:=Tryz.f129) Tryz.func129 (by kernel_rfl) (by kernel_rfl) ?_
 rintro ⟨a0,a1,⟨⟩⟩ K ⟨r,h,hK⟩
 change QK a0 a1=some r at h
 unfold QK at h
 conv=>whnf
 refine Zl h (fun places0 hb0 h=>?_)
 conv=>whnf
 refine Zz h (fun h=>?_) (fun h=>?_)
 conv=>whnf
 refine vAt h (fun x0 he1a he1b he1x h=>?_)
 conv=>whnf
 refine ⟨by kernel_rfl,?_⟩
 conv=>whnf
 refine ⟨he1a,he1b,Zp he1x ?_⟩
 conv=>whnf
 refine ⟨by kernel_rfl,?_⟩
 conv=>whnf
 refine Zz h (fun h=>?_) (fun h=>?_)
 conv=>whnf
 refine YJ h (fun h=>?_) (fun h=>?_)
 conv=>whnf
 refine vAt h (fun x1 he2a he2b he2x h=>?_)
 conv=>whnf
 refine vAt h (fun x2 he3a he3b he3x h=>?_)
 conv=>whnf
 refine vAt h (fun x3 he4a he4b he4x h=>?_)
 conv=>whnf
 refine Zl h (fun fitsSwap0 hb5 h=>?_)
 conv=>whnf
 refine ⟨trivial,?_⟩
 conv=>whnf
 cases h
 exact hK
 conv=>whnf
 refine ⟨trivial,?_⟩
 conv=>whnf
 cases h
 exact hK
 conv=>whnf
 refine ⟨trivial,?_⟩
 conv=>whnf
 cases h
 exact hK
 conv=>whnf
 refine Zz h (fun h=>?_) (fun h=>?_)
 conv=>whnf
 refine vAt h (fun x0 he6a he6b he6x h=>?_)
 conv=>whnf
 refine ⟨by kernel_rfl,?_⟩
 conv=>whnf
 refine ⟨he6a,he6b,Zp he6x ?_⟩
 conv=>whnf
 refine Yb ?_
 refine YJ h (fun h=>?_) (fun h=>?_)
 conv=>whnf
 cases h
 exact hK
 conv=>whnf
 refine vAt h (fun x1 he7a he7b he7x h=>?_)
 conv=>whnf
 refine Zl h (fun isBuffer0 hb8 h=>?_)
 conv=>whnf
 refine YJ h (fun h=>?_) (fun h=>?_)
 conv=>whnf
 refine Zl h (fun isName0 hb9 h=>?_)
 conv=>whnf
 refine YJ h (fun h=>?_) (fun h=>?_)
 conv=>whnf
 refine Zl h (fun InstanceNamed0 hb10 h=>?_)
 conv=>whnf
 refine Zz h (fun h=>?_) (fun h=>?_)
 conv=>whnf
 refine Zl h (fun netNamed0 hb11 h=>?_)
 conv=>whnf
 cases h
 exact hK
 conv=>whnf
 cases h
 exact hK
 conv=>whnf
 cases h
 exact hK
 conv=>whnf
 cases h
 exact hK
 conv=>whnf
 refine Zz h (fun h=>?_) (fun h=>?_)
 conv=>whnf
 refine Zl h (fun canUnbuffer0 hb12 h=>?_)
 conv=>whnf
 cases h
 exact hK
 conv=>whnf
 refine Zz h (fun h=>?_) (fun h=>?_)
 conv=>whnf
 refine ⟨by kernel_rfl,?_⟩
 conv=>whnf
 refine vAt h (fun x0 he13a he13b he13x h=>?_)
 conv=>whnf
 refine ⟨by kernel_rfl,?_⟩
 conv=>whnf
 refine ⟨he13a,he13b,Zp he13x ?_⟩
 conv=>whnf
 refine Yb ?_
 refine YJ h (fun h=>?_) (fun h=>?_)
 conv=>whnf
 refine ⟨trivial,?_⟩
 conv=>whnf
 cases h
 exact hK
 conv=>whnf
 refine ⟨he13a,he13b,Zp he13x ?_⟩
 conv=>whnf
 refine ⟨by kernel_rfl,?_⟩
 conv=>whnf
 refine ⟨he13a,he13b,Zp he13x ?_⟩
 conv=>whnf
 refine ⟨trivial,?_⟩
 conv=>whnf
 cases h
 exact hK
 conv=>whnf
 refine ⟨by kernel_rfl,?_⟩
 conv=>whnf
 refine vAt h (fun x0 he14a he14b he14x h=>?_)
 conv=>whnf
 refine Zl h (fun int64_0 hb15 h=>?_)
 conv=>whnf
 refine Zl h (fun IsWire0 hb16 h=>?_)
 conv=>whnf
 refine ⟨trivial,?_⟩
 conv=>whnf
 cases h
 exact hK
theorem ZA5:Zc Tryz.prog 177 Zx1:=by
 refine Zg Zr Zj mixed {} (fn:=Tryz.f177) Tryz.func177 (by kernel_rfl) (by kernel_rfl) ?_
 rintro ⟨e0,⟨⟩⟩ K ⟨r,h,hK⟩
 change Zb3 e0=some r at h
 unfold Zb3 at h
 conv=>whnf
 refine Zz h (fun h=>?_) (fun h=>?_)
 conv=>whnf
 cases h
 exact hK
 conv=>whnf
 refine Zz h (fun h=>?_) (fun h=>?_)
 conv=>whnf
 cases h
 exact hK
 conv=>whnf
 refine Zz h (fun h=>?_) (fun h=>?_)
 conv=>whnf
 cases h
 exact hK
 conv=>whnf
 refine Zz h (fun h=>?_) (fun h=>?_)
 conv=>whnf
 cases h
 exact hK
 conv=>whnf
 cases h
 exact hK
theorem ZBt (q1:Zc Tryz.prog 277 c105) (q0:Zc Tryz.prog 278 ZyM):Zc Tryz.prog 276 c107:=by
 refine Zg Zr (Ze q1 (Ze q0 Zj)) mixed {} (fn:=Tryz.f276) Tryz.func276 (by kernel_rfl) (by kernel_rfl) ?_
 rintro ⟨t0,a0,⟨⟩⟩ K ⟨r,h,hK⟩
 change Qb t0 a0=some r at h
 unfold Qb at h
 conv=>whnf
 refine Zl h (fun IsTable0 hb0 h=>?_)
 conv=>whnf
 refine ZeX ?_
 refine YJ h (fun h=>?_) (fun h=>?_)
 conv=>whnf
 refine YJ h (fun h=>?_) (fun h=>?_)
 conv=>whnf
 refine Zl h (fun int64_0 hb1 h=>?_)
 conv=>whnf
 cases h
 exact hK
 conv=>whnf
 cases h
 exact hK
 conv=>whnf
 cases h
 exact hK
theorem ZzI:Zc Tryz.prog 212 Zyx:=by
 refine Zg Zr Zj mixed {} (fn:=Tryz.f212) Tryz.func212 (by kernel_rfl) (by kernel_rfl) ?_
 rintro ⟨p0,q0,⟨⟩⟩ K ⟨r,h,hK⟩
 change Zbi p0 q0=some r at h
 unfold Zbi at h
 conv=>whnf
 cases h
 exact hK
theorem Zzd:Zc Tryz.prog 157 Zyw:=by
 refine Zg Zr Zj mixed {} (fn:=Tryz.f157) Tryz.func157 (by kernel_rfl) (by kernel_rfl) ?_
 rintro ⟨list0,⟨⟩⟩ K ⟨r,h,hK⟩
 change XQ list0=some r at h
 unfold XQ at h
 conv=>whnf
 cases h
 exact hK
theorem w92:Zc Tryz.prog 244 c92:=by
 refine Zg Zr Zj mixed {} (fn:=Tryz.f244) Tryz.func244 (by kernel_rfl) (by kernel_rfl) ?_
 rintro ⟨list0,⟨⟩⟩ K ⟨r,h,hK⟩
 change QN list0=some r at h
 unfold QN at h
 conv=>whnf
 cases h
 exact hK
theorem ZCe (q1:Zc Tryz.prog 202 Zxc) (q2:Zc Tryz.prog 203 ZxB) (q0:Zc Tryz.prog 108 ZvF):Zc Tryz.prog 151 c196:=by
 refine Zg Zr (Ze q1 (Ze q2 (Ze q0 Zj))) mixed {} (fn:=Tryz.f151) Tryz.func151 (by kernel_rfl) (by kernel_rfl) ?_
 rintro ⟨a0,b0,⟨⟩⟩ K ⟨r,h,hK⟩
 change ZcN a0 b0=some r at h
 unfold ZcN at h
 conv=>whnf
 refine Yb ?_
 refine Zz h (fun h=>?_) (fun h=>?_)
 conv=>whnf
 refine Yb ?_
 refine Zz h (fun h=>?_) (fun h=>?_)
 conv=>whnf
 refine Zl h (fun eqPinS0 hb0 h=>?_)
 conv=>whnf
 refine Yb ?_
 refine YJ h (fun h=>?_) (fun h=>?_)
 conv=>whnf
 refine Zl h (fun eqArcS0 hb1 h=>?_)
 conv=>whnf
 refine Yb ?_
 refine YJ h (fun h=>?_) (fun h=>?_)
 conv=>whnf
 refine Zl h (fun eqInt64S0 hb2 h=>?_)
 conv=>whnf
 refine Yb ?_
 refine YJ h (fun h=>?_) (fun h=>?_)
 conv=>whnf
 refine Yb ?_
 refine Zz h (fun h=>?_) (fun h=>?_)
 conv=>whnf
 refine Yb ?_
 refine Zz h (fun h=>?_) (fun h=>?_)
 conv=>whnf
 cases h
 exact hK
 conv=>whnf
 cases h
 exact hK
 conv=>whnf
 cases h
 exact hK
 conv=>whnf
 cases h
 exact hK
 conv=>whnf
 cases h
 exact hK
 conv=>whnf
 cases h
 exact hK
 conv=>whnf
 cases h
 exact hK
 conv=>whnf
 cases h
 exact hK
theorem Zy2 (q0:Zc Tryz.prog 152 Zxz):Zc Tryz.prog 93 ZxO:=by
 refine Zg Zr (Ze q0 Zj) mixed {loops:=[(0,[.reg 5 (.dat (.int .i64))])],draws:=[(6,[0,0,3,7,0,0,48,112,255,511],.op 0 (.op 1 (.op 2 (.op 3 (.op 4 (.op 5 (.op 6 (.op 7 (.alt 8 (.op 9 (.done)) (.done))))))))))]} (fn:=Tryz.f93) Tryz.func93 (by kernel_rfl) (by kernel_rfl) ?_
 rintro ⟨a0,b0,⟨⟩⟩ K ⟨r,h,hK⟩
 change J4 a0 b0=some r at h
 unfold J4 at h
 conv=>whnf
 refine Yb ?_
 refine Zz h (fun h=>?_) (fun h=>?_)
 conv=>whnf
 refine Yj h ?_
 rintro I0 μ0 ⟨i0,⟨⟩⟩ zs0 h hI0 hR0
 change ZbE a0 b0 i0=some zs0 at h
 unfold ZbE at h
 conv=>whnf
 refine Zz h (fun h=>?_) (fun h=>?_)
 conv=>whnf
 refine ⟨by kernel_rfl,?_⟩
 conv=>whnf
 refine vAt h (fun x0 he1a he1b he1x h=>?_)
 conv=>whnf
 refine vAt h (fun x1 he2a he2b he2x h=>?_)
 conv=>whnf
 refine Zl h (fun eqInstance0 hb3 h=>?_)
 conv=>whnf
 refine ⟨trivial,?_⟩
 conv=>whnf
 refine Yb ?_
 refine YJ h (fun h=>?_) (fun h=>?_)
 conv=>whnf
 cases h
 exact ⟨⟨rfl,rfl⟩,hI0 _ rfl⟩
 conv=>whnf
 cases h
 obtain rfl:=hR0 _ rfl
 exact hK
 conv=>whnf
 cases h
 obtain rfl:=hR0 _ rfl
 exact hK
 conv=>whnf
 cases h
 exact hK
theorem Zze (q0:Zc Tryz.prog 227 Zxx):Zc Tryz.prog 202 Zxc:=by
 refine Zg Zr (Ze q0 Zj) mixed {loops:=[(0,[.reg 5 (.dat (.int .i64))])],draws:=[(6,[0,0,3,7,0,0,48,112,255,511],.op 0 (.op 1 (.op 2 (.op 3 (.op 4 (.op 5 (.op 6 (.op 7 (.alt 8 (.op 9 (.done)) (.done))))))))))]} (fn:=Tryz.f202) Tryz.func202 (by kernel_rfl) (by kernel_rfl) ?_
 rintro ⟨a0,b0,⟨⟩⟩ K ⟨r,h,hK⟩
 change Zeu a0 b0=some r at h
 unfold Zeu at h
 conv=>whnf
 refine Yb ?_
 refine Zz h (fun h=>?_) (fun h=>?_)
 conv=>whnf
 refine Yj h ?_
 rintro I0 μ0 ⟨i0,⟨⟩⟩ zs0 h hI0 hR0
 change ZeA a0 b0 i0=some zs0 at h
 unfold ZeA at h
 conv=>whnf
 refine Zz h (fun h=>?_) (fun h=>?_)
 conv=>whnf
 refine ⟨by kernel_rfl,?_⟩
 conv=>whnf
 refine vAt h (fun x0 he1a he1b he1x h=>?_)
 conv=>whnf
 refine vAt h (fun x1 he2a he2b he2x h=>?_)
 conv=>whnf
 refine Zl h (fun eqPin0 hb3 h=>?_)
 conv=>whnf
 refine ⟨trivial,?_⟩
 conv=>whnf
 refine Yb ?_
 refine YJ h (fun h=>?_) (fun h=>?_)
 conv=>whnf
 cases h
 exact ⟨⟨rfl,rfl⟩,hI0 _ rfl⟩
 conv=>whnf
 cases h
 obtain rfl:=hR0 _ rfl
 exact hK
 conv=>whnf
 cases h
 obtain rfl:=hR0 _ rfl
 exact hK
 conv=>whnf
 cases h
 exact hK
theorem ZAb:Zc Tryz.prog 153 Zyn:=by
 refine Zg Zr Zj mixed {} (fn:=Tryz.f153) Tryz.func153 (by kernel_rfl) (by kernel_rfl) ?_
 rintro ⟨a0,b0,⟨⟩⟩ K ⟨r,h,hK⟩
 change ZcK a0 b0=some r at h
 unfold ZcK at h
 conv=>whnf
 refine Yb ?_
 refine Zz h (fun h=>?_) (fun h=>?_)
 conv=>whnf
 refine Yb ?_
 refine Zz h (fun h=>?_) (fun h=>?_)
 conv=>whnf
 refine Yb ?_
 refine Zz h (fun h=>?_) (fun h=>?_)
 conv=>whnf
 cases h
 exact hK
 conv=>whnf
 cases h
 exact hK
 conv=>whnf
 cases h
 exact hK
 conv=>whnf
 cases h
 exact hK
theorem ZBZ (q0:Zc Tryz.prog 108 ZvF):Zc Tryz.prog 55 Zw3:=by
 refine Zg Zr (Ze q0 Zj) mixed {} (fn:=Tryz.f55) Tryz.func55 (by kernel_rfl) (by kernel_rfl) ?_
 rintro ⟨a0,b0,⟨⟩⟩ K ⟨r,h,hK⟩
 change ZbY a0 b0=some r at h
 unfold ZbY at h
 conv=>whnf
 refine Zl h (fun eqInt64S0 hb0 h=>?_)
 conv=>whnf
 refine Yb ?_
 refine YJ h (fun h=>?_) (fun h=>?_)
 conv=>whnf
 refine Zl h (fun eqInt64S1 hb1 h=>?_)
 conv=>whnf
 refine Yb ?_
 refine YJ h (fun h=>?_) (fun h=>?_)
 conv=>whnf
 refine Zl h (fun eqInt64S2 hb2 h=>?_)
 conv=>whnf
 refine Yb ?_
 refine YJ h (fun h=>?_) (fun h=>?_)
 conv=>whnf
 refine Zl h (fun eqInt64S3 hb3 h=>?_)
 conv=>whnf
 refine Yb ?_
 refine YJ h (fun h=>?_) (fun h=>?_)
 conv=>whnf
 cases h
 exact hK
 conv=>whnf
 cases h
 exact hK
 conv=>whnf
 cases h
 exact hK
 conv=>whnf
 cases h
 exact hK
 conv=>whnf
 cases h
 exact hK
theorem w5 (q0:Zc Tryz.prog 250 c4):Zc Tryz.prog 224 c5:=by
 refine Zg Zr (Ze q0 Zj) mixed {} (fn:=Tryz.f224) Tryz.func224 (by kernel_rfl) (by kernel_rfl) ?_
 rintro ⟨a0,left0,⟨⟩⟩ K ⟨r,h,hK⟩
 change Zbr a0 left0=some r at h
 unfold Zbr at h
 conv=>whnf
 refine Zl h (fun szTableS0 hb0 h=>?_)
 conv=>whnf
 refine Zz h (fun h=>?_) (fun h=>?_)
 conv=>whnf
 cases h
 exact hK
 conv=>whnf
 refine Zl h (fun szTableS1 hb1 h=>?_)
 conv=>whnf
 refine Zz h (fun h=>?_) (fun h=>?_)
 conv=>whnf
 cases h
 exact hK
 conv=>whnf
 cases h
 exact hK
theorem w6 (q0:Zc Tryz.prog 224 c5):Zc Tryz.prog 193 c6:=by
 refine Zg Zr (Ze q0 Zj) mixed {loops:=[(0,[.reg 1 (.dat (.int .i64)),.reg 5 (.dat (.int .i64))])]} (fn:=Tryz.f193) Tryz.func193 (by kernel_rfl) (by kernel_rfl) ?_
 rintro ⟨a0,left0,⟨⟩⟩ K ⟨r,h,hK⟩
 change Zb0 a0 left0=some r at h
 unfold Zb0 at h
 conv=>whnf
 refine Zz h (fun h=>?_) (fun h=>?_)
 conv=>whnf
 cases h
 exact hK
 conv=>whnf
 refine Yj h ?_
 rintro I0 μ0 ⟨left1,i0,⟨⟩⟩ zs0 h hI0 hR0
 change Zez a0 left1 i0=some zs0 at h
 unfold Zez at h
 conv=>whnf
 refine Zz h (fun h=>?_) (fun h=>?_)
 conv=>whnf
 refine vAt h (fun x0 he1a he1b he1x h=>?_)
 conv=>whnf
 refine Zl h (fun szArc0 hb2 h=>?_)
 conv=>whnf
 refine Zz h (fun h=>?_) (fun h=>?_)
 conv=>whnf
 cases h
 obtain rfl:=hR0 _ rfl
 exact hK
 conv=>whnf
 cases h
 exact ⟨⟨rfl,rfl⟩,hI0 _ rfl⟩
 conv=>whnf
 cases h
 obtain rfl:=hR0 _ rfl
 exact hK
theorem w15 (q0:Zc Tryz.prog 75 c11) (q1:Zc Tryz.prog 76 c12) (q2:Zc Tryz.prog 77 c14):Zc Tryz.prog 35 c15:=by
 refine Zg Zr (Ze q0 (Ze q1 (Ze q2 Zj))) mixed {} (fn:=Tryz.f35) Tryz.func35 (by kernel_rfl) (by kernel_rfl) ?_
 rintro ⟨a0,left0,⟨⟩⟩ K ⟨r,h,hK⟩
 change Zak a0 left0=some r at h
 unfold Zak at h
 conv=>whnf
 refine Zl h (fun szInstanceS0 hb0 h=>?_)
 conv=>whnf
 refine Zz h (fun h=>?_) (fun h=>?_)
 conv=>whnf
 cases h
 exact hK
 conv=>whnf
 refine Zl h (fun szStringS0 hb1 h=>?_)
 conv=>whnf
 refine Zz h (fun h=>?_) (fun h=>?_)
 conv=>whnf
 cases h
 exact hK
 conv=>whnf
 refine Zl h (fun szPortS0 hb2 h=>?_)
 conv=>whnf
 refine Zz h (fun h=>?_) (fun h=>?_)
 conv=>whnf
 cases h
 exact hK
 conv=>whnf
 cases h
 exact hK
theorem w2:Zc Tryz.prog 100 c2:=by
 refine Zg Zr Zj mixed {} (fn:=Tryz.f100) Tryz.func100 (by kernel_rfl) (by kernel_rfl) ?_
 rintro ⟨a0,left0,⟨⟩⟩ K ⟨r,h,hK⟩
 change YX a0 left0=some r at h
 unfold YX at h
 conv=>whnf
 refine Zz h (fun h=>?_) (fun h=>?_)
 conv=>whnf
 cases h
 exact hK
 conv=>whnf
 cases h
 exact hK
theorem w27 (q0:Zc Tryz.prog 226 c26):Zc Tryz.prog 195 c27:=by
 refine Zg YO (Ze q0 Zj) mixed {loops:=[(0,[.reg 4 (.dat (.int .i64)),.ent 0 (nat_lit 235) ZqC])]} (fn:=Tryz.f195) Tryz.func195 (by kernel_rfl) (by kernel_rfl) ?_
 rintro ⟨a0,⟨⟩⟩ K ⟨r,h,hK⟩
 change Zef a0=some r at h
 unfold Zef at h
 conv=>whnf
 refine Qt h (fun hp0 h=>?_)
 conv=>whnf
 refine Qt h (fun hp1 h=>?_)
 conv=>whnf
 refine Qt h (fun hp2 h=>?_)
 conv=>whnf
 refine Qt h (fun hp3 h=>?_)
 conv=>whnf
 intro fp4
 conv=>whnf
 refine Yj h ?_
 rintro I5 μ5 ⟨i0,l0,⟨⟩⟩ zs5 h hI5 hR5
 change Zei a0 i0 l0=some zs5 at h
 unfold Zei at h
 conv=>whnf
 intro fp6
 conv=>whnf
 refine Zz h (fun h=>?_) (fun h=>?_)
 conv=>whnf
 refine vAt h (fun x0 he7a he7b he7x h=>?_)
 conv=>whnf
 refine Zl h (fun toArc0 hb8 h=>?_)
 conv=>whnf
 intro fp9
 conv=>whnf
 intro fp10
 conv=>whnf
 refine vAt h (fun x1 he11a he11b he11x h=>?_)
 conv=>whnf
 refine ⟨he11a,he11b,Zp he11x ?_⟩
 conv=>whnf
 intro fp12
 conv=>whnf
 intro fp13
 conv=>whnf
 intro fp14
 conv=>whnf
 cases h
 exact ⟨⟨rfl,rfl⟩,hI5 _ rfl⟩
 conv=>whnf
 cases h
 obtain rfl:=hR5 _ rfl
 exact hK
theorem w22 (q0:Zc Tryz.prog 225 c21):Zc Tryz.prog 194 c22:=by
 refine Zg Zr (Ze q0 Zj) mixed {loops:=[(0,[.reg 4 (.dat (.int .i64)),.ent 0 (nat_lit 218) (.flat ZrP.ety)])]} (fn:=Tryz.f194) Tryz.func194 (by kernel_rfl) (by kernel_rfl) ?_
 rintro ⟨a0,⟨⟩⟩ K ⟨r,h,hK⟩
 change Zew a0=some r at h
 unfold Zew at h
 conv=>whnf
 refine Qt h (fun hp0 h=>?_)
 conv=>whnf
 refine Qt h (fun hp1 h=>?_)
 conv=>whnf
 refine Qt h (fun hp2 h=>?_)
 conv=>whnf
 refine Qt h (fun hp3 h=>?_)
 conv=>whnf
 refine Yj h ?_
 rintro I4 μ4 ⟨i0,l0,⟨⟩⟩ zs4 h hI4 hR4
 change Zej a0 i0 l0=some zs4 at h
 unfold Zej at h
 conv=>whnf
 refine Zz h (fun h=>?_) (fun h=>?_)
 conv=>whnf
 refine vAt h (fun x0 he5a he5b he5x h=>?_)
 conv=>whnf
 refine Zl h (fun toPin0 hb6 h=>?_)
 conv=>whnf
 refine vAt h (fun x1 he7a he7b he7x h=>?_)
 conv=>whnf
 refine ⟨by kernel_rfl,?_⟩
 conv=>whnf
 refine ⟨by decide,?_⟩
 conv=>whnf
 refine ⟨he7a,he7b,Zp he7x ?_⟩
 conv=>whnf
 cases h
 exact ⟨⟨rfl,rfl⟩,hI4 _ rfl⟩
 conv=>whnf
 cases h
 obtain rfl:=hR4 _ rfl
 exact hK
theorem w24 (q0:Zc Tryz.prog 101 c23):Zc Tryz.prog 268 c24:=by
 refine Zg Zr (Ze q0 Zj) mixed {} (fn:=Tryz.f268) Tryz.func268 (by kernel_rfl) (by kernel_rfl) ?_
 rintro ⟨a0,⟨⟩⟩ K ⟨r,h,hK⟩
 change ZbL a0=some r at h
 unfold ZbL at h
 conv=>whnf
 refine Zl h (fun toInt64S0 hb0 h=>?_)
 conv=>whnf
 refine Zl h (fun toInt64S1 hb1 h=>?_)
 conv=>whnf
 refine Zl h (fun toInt64S2 hb2 h=>?_)
 conv=>whnf
 cases h
 exact hK
theorem ZBH:Zc Tryz.prog 201 Zw8:=by
 refine Zg Zr Zj mixed {} (fn:=Tryz.f201) Tryz.func201 (by kernel_rfl) (by kernel_rfl) ?_
 rintro ⟨s0,⟨⟩⟩ K ⟨r,h,hK⟩
 change YR s0=some r at h
 unfold YR at h
 conv=>whnf
 refine ⟨fun hd=>?_,?_⟩
 have h:=Zrx (T:=(some ([]:List ZL))) h (by simp [hd,Zx])
 conv=>whnf
 cases h
 exact hK
 conv=>whnf
 refine Qt h (fun hp0 h=>?_)
 conv=>whnf
 cases h
 exact hK
theorem ZzE:Zc Tryz.prog 200 Zxv:=by
 refine Zg Zr Zj mixed {} (fn:=Tryz.f200) Tryz.func200 (by kernel_rfl) (by kernel_rfl) ?_
 rintro ⟨s0,⟨⟩⟩ K ⟨r,h,hK⟩
 change Xn s0=some r at h
 unfold Xn at h
 conv=>whnf
 refine ⟨fun hd=>?_,?_⟩
 have h:=Zrx (T:=(some ([]:List (List UInt8)))) h (by simp [hd,Zx])
 conv=>whnf
 cases h
 exact hK
 conv=>whnf
 refine Qt h (fun hp0 h=>?_)
 conv=>whnf
 cases h
 exact hK
theorem ZAA (q0:Zc Tryz.prog 276 c107):Zc Tryz.prog 286 Zxw:=by
 refine Zg Zr (Ze q0 Zj) mixed {loops:=[(0,[.reg 8 (.dat (.int .i64))])]} (fn:=Tryz.f286) Tryz.func286 (by kernel_rfl) (by kernel_rfl) ?_
 rintro ⟨s0,f0,⟨⟩⟩ K ⟨r,h,hK⟩
 change ZJ s0 f0=some r at h
 unfold ZJ at h
 conv=>whnf
 refine Yj h ?_
 rintro I0 μ0 ⟨v0,⟨⟩⟩ zs0 h hI0 hR0
 change ZP s0 f0 v0=some zs0 at h
 unfold ZP at h
 conv=>whnf
 refine Zz h (fun h=>?_) (fun h=>?_)
 conv=>whnf
 refine vAt h (fun x0 he1a he1b he1x h=>?_)
 conv=>whnf
 refine Zl h (fun c1_0 hb2 h=>?_)
 conv=>whnf
 refine YJ h (fun h=>?_) (fun h=>?_)
 conv=>whnf
 cases h
 obtain rfl:=hR0 _ rfl
 exact hK
 conv=>whnf
 cases h
 exact ⟨⟨rfl,rfl⟩,hI0 _ rfl⟩
 conv=>whnf
 cases h
 obtain rfl:=hR0 _ rfl
 exact hK
theorem ZBW (q0:Zc Tryz.prog 191 c99):Zc Tryz.prog 222 Zxq:=by
 refine Zg Zr (Ze q0 Zj) mixed {loops:=[(0,[.reg 8 (.dat (.int .i64))])]} (fn:=Tryz.f222) Tryz.func222 (by kernel_rfl) (by kernel_rfl) ?_
 rintro ⟨s0,f0,⟨⟩⟩ K ⟨r,h,hK⟩
 change Z8 s0 f0=some r at h
 unfold Z8 at h
 conv=>whnf
 refine Yj h ?_
 rintro I0 μ0 ⟨v0,⟨⟩⟩ zs0 h hI0 hR0
 change Z9 s0 f0 v0=some zs0 at h
 unfold Z9 at h
 conv=>whnf
 refine Zz h (fun h=>?_) (fun h=>?_)
 conv=>whnf
 refine vAt h (fun x0 he1a he1b he1x h=>?_)
 conv=>whnf
 refine Zl h (fun c1_0 hb2 h=>?_)
 conv=>whnf
 refine YJ h (fun h=>?_) (fun h=>?_)
 conv=>whnf
 cases h
 obtain rfl:=hR0 _ rfl
 exact hK
 conv=>whnf
 cases h
 exact ⟨⟨rfl,rfl⟩,hI0 _ rfl⟩
 conv=>whnf
 cases h
 obtain rfl:=hR0 _ rfl
 exact hK
theorem w93:Zc Tryz.prog 217 c93:=by
 refine Zg Zr Zj mixed {loops:=[(0,[.reg 8 (.dat (.int .i64))])]} (fn:=Tryz.f217) Tryz.func217 (by kernel_rfl) (by kernel_rfl) ?_
 rintro ⟨s0,v0,⟨⟩⟩ K ⟨r,h,hK⟩
 change Yq s0 v0=some r at h
 unfold Yq at h
 conv=>whnf
 refine Yj h ?_
 rintro I0 μ0 ⟨v1,⟨⟩⟩ zs0 h hI0 hR0
 change Yo s0 v0 v1=some zs0 at h
 unfold Yo at h
 conv=>whnf
 refine Zz h (fun h=>?_) (fun h=>?_)
 conv=>whnf
 refine vAt h (fun x0 he1a he1b he1x h=>?_)
 conv=>whnf
 refine Zz h (fun h=>?_) (fun h=>?_)
 conv=>whnf
 cases h
 obtain rfl:=hR0 _ rfl
 exact hK
 conv=>whnf
 cases h
 exact ⟨⟨rfl,rfl⟩,hI0 _ rfl⟩
 conv=>whnf
 cases h
 obtain rfl:=hR0 _ rfl
 exact hK
theorem w78 (q3:Zc Tryz.prog 60 c59) (q0:Zc Tryz.prog 65 c68) (q1:Zc Tryz.prog 66 c69) (q2:Zc Tryz.prog 67 c77):Zc Tryz.prog 30 c78:=by
 refine Zg Zr (Ze q3 (Ze q0 (Ze q1 (Ze q2 Zj)))) mixed {} (fn:=Tryz.f30) Tryz.func30 (by kernel_rfl) (by kernel_rfl) ?_
 rintro ⟨b0,e0,⟨⟩⟩ K ⟨r,h,hK⟩
 change Zcg b0 e0=some r at h
 unfold Zcg at h
 conv=>whnf
 refine Zl h (fun IsBlock0 hb0 h=>?_)
 conv=>whnf
 refine Yb ?_
 refine YJ h (fun h=>?_) (fun h=>?_)
 conv=>whnf
 refine Zl h (fun l08Blank0 hb1 h=>?_)
 conv=>whnf
 refine ZeX ?_
 refine YJ h (fun h=>?_) (fun h=>?_)
 conv=>whnf
 refine Zl h (fun l08Range0 hb2 h=>?_)
 conv=>whnf
 refine Yb ?_
 refine YJ h (fun h=>?_) (fun h=>?_)
 conv=>whnf
 refine Zl h (fun l08State0 hb3 h=>?_)
 conv=>whnf
 refine Yb ?_
 refine YJ h (fun h=>?_) (fun h=>?_)
 conv=>whnf
 refine Zz h (fun h=>?_) (fun h=>?_)
 conv=>whnf
 refine Zk4 h (fun h=>?_) (fun h=>?_)
 conv=>whnf
 cases h
 exact hK
 conv=>whnf
 refine Zz h (fun h=>?_) (fun h=>?_)
 conv=>whnf
 cases h
 exact hK
 conv=>whnf
 cases h
 exact hK
 conv=>whnf
 cases h
 exact hK
 conv=>whnf
 cases h
 exact hK
 conv=>whnf
 cases h
 exact hK
 conv=>whnf
 cases h
 exact hK
 conv=>whnf
 cases h
 exact hK
theorem w89 (q0:Zc Tryz.prog 25 c87) (q1:Zc Tryz.prog 37 c88) (q2:Zc Tryz.prog 38 c85):Zc Tryz.prog 9 c89:=by
 refine Zg Zr (Ze q0 (Ze q1 (Ze q2 Zj))) mixed {loops:=[(0,[.reg 9 (.dat (.sl (Ym))),.reg 11 (.dat (.int .i64)),.cell 1010 0 (.sl (XY)),.cell 1010 1 (.sl (Z6)),.cell 1010 2 (.sl (.str)),.cell 1010 3 (.sl (Vz)),.cell 1010 4 (.sl (XR))])],draws:=[(9,[0,0,0,6,14,31,63,0,255,511],.op 0 (.op 1 (.op 2 (.op 3 (.op 4 (.op 7 (.alt 5 (.alt 6 (.alt 8 (.op 9 (.done)) (.done)) (.done)) (.done)))))))),(10,[0,0,0,6,14,31,63],.op 0 (.op 1 (.op 2 (.op 3 (.op 4 (.alt 5 (.alt 6 (.done) (.done)) (.done)))))))]} (fn:=Tryz.f9) Tryz.func9 (by kernel_rfl) (by kernel_rfl) ?_
 rintro ⟨b0,list0,⟨⟩⟩ K ⟨r,h,hK⟩
 change Jp b0 list0=some r at h
 unfold Jp at h
 conv=>whnf
 refine Zl h (fun ApplyEdits0 hb0 h=>?_)
 conv=>whnf
 intro fp1
 conv=>whnf
 intro fp2
 conv=>whnf
 intro fp3
 conv=>whnf
 refine Yb ?_
 refine Zz h (fun h=>?_) (fun h=>?_)
 conv=>whnf
 refine Yj h ?_
 rintro I4 μ4 ⟨out0,i0,c0,c1,c2,c3,c4,⟨⟩⟩ zs4 h hI4 hR4
 change Xx list0 out0 i0 c0 c1 c2 c3 c4=some zs4 at h
 unfold Xx at h
 conv=>whnf
 refine Zz h (fun h=>?_) (fun h=>?_)
 conv=>whnf
 refine ⟨by kernel_rfl,?_⟩
 conv=>whnf
 refine vAt h (fun x0 he5a he5b he5x h=>?_)
 conv=>whnf
 refine Zl h (fun l08Inverse0 hb6 h=>?_)
 conv=>whnf
 refine Qt h (fun hp7 h=>?_)
 conv=>whnf
 refine ⟨trivial,?_⟩
 conv=>whnf
 refine ⟨by kernel_rfl,?_⟩
 conv=>whnf
 refine ⟨he5a,he5b,Zp he5x ?_⟩
 conv=>whnf
 refine Zl h (fun l08Apply0 hb8 h=>?_)
 conv=>whnf
 intro fp9
 conv=>whnf
 intro fp10
 conv=>whnf
 intro fp11
 conv=>whnf
 refine ⟨trivial,?_⟩
 conv=>whnf
 cases h
 exact ⟨⟨rfl,rfl⟩,hI4 _ rfl⟩
 conv=>whnf
 cases h
 obtain rfl:=hR4 _ rfl
 exact hK
 conv=>whnf
 cases h
 exact hK
theorem w45 (q0:Zc Tryz.prog 121 c43):Zc Tryz.prog 288 c45:=by
 refine Zg Zr (Ze q0 Zj) mixed {loops:=[(0,[.reg 3 (.dat (.int .i64))])],draws:=[(4,[0,0,3,7,15,31,63,127,255,511,1023,1023,3071,8191,16383,1023,1023,99327,230399,524287,1048575,2097151],.op 0 (.op 1 (.op 2 (.op 3 (.alt 4 (.op 5 (.op 6 (.op 7 (.op 8 (.op 9 (.op 10 (.op 11 (.op 12 (.op 13 (.op 14 (.op 15 (.op 16 (.op 17 (.op 18 (.op 19 (.op 20 (.op 21 (.done)))))))))))))))))) (.done))))))]} (fn:=Tryz.f288) Tryz.func288 (by kernel_rfl) (by kernel_rfl) ?_
 rintro ⟨list0,⟨⟩⟩ K ⟨r,h,hK⟩
 change ZbV list0=some r at h
 unfold ZbV at h
 conv=>whnf
 refine Yj h ?_
 rintro I0 μ0 ⟨i0,⟨⟩⟩ zs0 h hI0 hR0
 change Zam list0 i0=some zs0 at h
 unfold Zam at h
 conv=>whnf
 refine Zz h (fun h=>?_) (fun h=>?_)
 conv=>whnf
 refine ⟨by kernel_rfl,?_⟩
 conv=>whnf
 refine vAt h (fun x0 he1a he1b he1x h=>?_)
 conv=>whnf
 refine Zl h (fun l01In0 hb2 h=>?_)
 conv=>whnf
 refine ZeX ?_
 refine YJ h (fun h=>?_) (fun h=>?_)
 conv=>whnf
 refine Zz h (fun h=>?_) (fun h=>?_)
 conv=>whnf
 refine vAt h (fun x1 he3a he3b he3x h=>?_)
 conv=>whnf
 refine ⟨he1a,he1b,Zp he1x ?_⟩
 conv=>whnf
 refine ⟨trivial,?_⟩
 conv=>whnf
 refine Zz h (fun h=>?_) (fun h=>?_)
 conv=>whnf
 cases h
 obtain rfl:=hR0 _ rfl
 exact hK
 conv=>whnf
 cases h
 exact ⟨⟨rfl,rfl⟩,hI0 _ rfl⟩
 conv=>whnf
 refine ⟨trivial,?_⟩
 conv=>whnf
 cases h
 exact ⟨⟨rfl,rfl⟩,hI0 _ rfl⟩
 conv=>whnf
 refine ⟨trivial,?_⟩
 conv=>whnf
 cases h
 obtain rfl:=hR0 _ rfl
 exact hK
 conv=>whnf
 refine Zz h (fun h=>?_) (fun h=>?_)
 conv=>whnf
 cases h
 obtain rfl:=hR0 _ rfl
 exact hK
 conv=>whnf
 cases h
 obtain rfl:=hR0 _ rfl
 exact hK
theorem w49 (q1:Zc Tryz.prog 121 c43) (q0:Zc Tryz.prog 253 c48):Zc Tryz.prog 230 c49:=by
 refine Zg Zr (Ze q1 (Ze q0 Zj)) mixed {} (fn:=Tryz.f230) Tryz.func230 (by kernel_rfl) (by kernel_rfl) ?_
 rintro ⟨a0,a1,⟨⟩⟩ K ⟨r,h,hK⟩
 change Zel a0 a1=some r at h
 unfold Zel at h
 conv=>whnf
 refine Zl h (fun l01In0 hb0 h=>?_)
 conv=>whnf
 refine ZeX ?_
 refine YJ h (fun h=>?_) (fun h=>?_)
 conv=>whnf
 refine Zl h (fun l01In1 hb1 h=>?_)
 conv=>whnf
 refine Yb ?_
 refine YJ h (fun h=>?_) (fun h=>?_)
 conv=>whnf
 refine vAt h (fun x0 he2a he2b he2x h=>?_)
 conv=>whnf
 refine Zz h (fun h=>?_) (fun h=>?_)
 conv=>whnf
 refine Yb ?_
 refine YJ h (fun h=>?_) (fun h=>?_)
 conv=>whnf
 cases h
 exact hK
 conv=>whnf
 refine Zz h (fun h=>?_) (fun h=>?_)
 conv=>whnf
 refine Zl h (fun l01In2 hb3 h=>?_)
 conv=>whnf
 refine YJ h (fun h=>?_) (fun h=>?_)
 conv=>whnf
 refine Zl h (fun l03Tables0 hb4 h=>?_)
 conv=>whnf
 refine YJ h (fun h=>?_) (fun h=>?_)
 conv=>whnf
 refine Zl h (fun l03Tables1 hb5 h=>?_)
 conv=>whnf
 cases h
 exact hK
 conv=>whnf
 cases h
 exact hK
 conv=>whnf
 cases h
 exact hK
 conv=>whnf
 cases h
 exact hK
 conv=>whnf
 refine Zz h (fun h=>?_) (fun h=>?_)
 conv=>whnf
 refine Zz h (fun h=>?_) (fun h=>?_)
 conv=>whnf
 refine YJ h (fun h=>?_) (fun h=>?_)
 conv=>whnf
 refine Zz h (fun h=>?_) (fun h=>?_)
 conv=>whnf
 refine Zz h (fun h=>?_) (fun h=>?_)
 conv=>whnf
 refine Zl h (fun l03Tables0 hb6 h=>?_)
 conv=>whnf
 refine YJ h (fun h=>?_) (fun h=>?_)
 conv=>whnf
 refine Zl h (fun l03Tables1 hb7 h=>?_)
 conv=>whnf
 cases h
 exact hK
 conv=>whnf
 cases h
 exact hK
 conv=>whnf
 cases h
 exact hK
 conv=>whnf
 cases h
 exact hK
 conv=>whnf
 cases h
 exact hK
 conv=>whnf
 refine Zz h (fun h=>?_) (fun h=>?_)
 conv=>whnf
 refine Zz h (fun h=>?_) (fun h=>?_)
 conv=>whnf
 refine YJ h (fun h=>?_) (fun h=>?_)
 conv=>whnf
 refine Zz h (fun h=>?_) (fun h=>?_)
 conv=>whnf
 refine vAt h (fun x1 he8a he8b he8x h=>?_)
 conv=>whnf
 refine Yb ?_
 refine YJ h (fun h=>?_) (fun h=>?_)
 conv=>whnf
 cases h
 exact hK
 conv=>whnf
 refine Zz h (fun h=>?_) (fun h=>?_)
 conv=>whnf
 refine Zl h (fun l03Tables0 hb9 h=>?_)
 conv=>whnf
 refine YJ h (fun h=>?_) (fun h=>?_)
 conv=>whnf
 cases h
 exact hK
 conv=>whnf
 cases h
 exact hK
 conv=>whnf
 cases h
 exact hK
 conv=>whnf
 cases h
 exact hK
 conv=>whnf
 cases h
 exact hK
 conv=>whnf
 cases h
 exact hK
 conv=>whnf
 refine Zz h (fun h=>?_) (fun h=>?_)
 conv=>whnf
 refine YJ h (fun h=>?_) (fun h=>?_)
 conv=>whnf
 refine Zz h (fun h=>?_) (fun h=>?_)
 conv=>whnf
 refine vAt h (fun x1 he10a he10b he10x h=>?_)
 conv=>whnf
 refine Yb ?_
 refine YJ h (fun h=>?_) (fun h=>?_)
 conv=>whnf
 cases h
 exact hK
 conv=>whnf
 refine Zz h (fun h=>?_) (fun h=>?_)
 conv=>whnf
 refine Zl h (fun l03Tables0 hb11 h=>?_)
 conv=>whnf
 refine YJ h (fun h=>?_) (fun h=>?_)
 conv=>whnf
 cases h
 exact hK
 conv=>whnf
 cases h
 exact hK
 conv=>whnf
 cases h
 exact hK
 conv=>whnf
 cases h
 exact hK
 conv=>whnf
 cases h
 exact hK
 conv=>whnf
 cases h
 exact hK
 conv=>whnf
 refine Zz h (fun h=>?_) (fun h=>?_)
 conv=>whnf
 refine YJ h (fun h=>?_) (fun h=>?_)
 conv=>whnf
 refine Zz h (fun h=>?_) (fun h=>?_)
 conv=>whnf
 refine Zz h (fun h=>?_) (fun h=>?_)
 conv=>whnf
 refine Zl h (fun l03Tables0 hb12 h=>?_)
 conv=>whnf
 refine YJ h (fun h=>?_) (fun h=>?_)
 conv=>whnf
 refine Zl h (fun l03Tables1 hb13 h=>?_)
 conv=>whnf
 cases h
 exact hK
 conv=>whnf
 cases h
 exact hK
 conv=>whnf
 cases h
 exact hK
 conv=>whnf
 cases h
 exact hK
 conv=>whnf
 cases h
 exact hK
 conv=>whnf
 refine Zz h (fun h=>?_) (fun h=>?_)
 conv=>whnf
 refine Zz h (fun h=>?_) (fun h=>?_)
 conv=>whnf
 refine YJ h (fun h=>?_) (fun h=>?_)
 conv=>whnf
 refine Zz h (fun h=>?_) (fun h=>?_)
 conv=>whnf
 refine vAt h (fun x1 he14a he14b he14x h=>?_)
 conv=>whnf
 refine Yb ?_
 refine YJ h (fun h=>?_) (fun h=>?_)
 conv=>whnf
 cases h
 exact hK
 conv=>whnf
 refine Zz h (fun h=>?_) (fun h=>?_)
 conv=>whnf
 refine Zl h (fun l03Tables0 hb15 h=>?_)
 conv=>whnf
 refine YJ h (fun h=>?_) (fun h=>?_)
 conv=>whnf
 cases h
 exact hK
 conv=>whnf
 cases h
 exact hK
 conv=>whnf
 cases h
 exact hK
 conv=>whnf
 cases h
 exact hK
 conv=>whnf
 cases h
 exact hK
 conv=>whnf
 cases h
 exact hK
 conv=>whnf
 refine Zz h (fun h=>?_) (fun h=>?_)
 conv=>whnf
 refine YJ h (fun h=>?_) (fun h=>?_)
 conv=>whnf
 refine Zz h (fun h=>?_) (fun h=>?_)
 conv=>whnf
 refine vAt h (fun x1 he16a he16b he16x h=>?_)
 conv=>whnf
 refine Yb ?_
 refine YJ h (fun h=>?_) (fun h=>?_)
 conv=>whnf
 cases h
 exact hK
 conv=>whnf
 refine Zz h (fun h=>?_) (fun h=>?_)
 conv=>whnf
 refine Zl h (fun l03Tables0 hb17 h=>?_)
 conv=>whnf
 refine YJ h (fun h=>?_) (fun h=>?_)
 conv=>whnf
 cases h
 exact hK
 conv=>whnf
 cases h
 exact hK
 conv=>whnf
 cases h
 exact hK
 conv=>whnf
 cases h
 exact hK
 conv=>whnf
 cases h
 exact hK
 conv=>whnf
 cases h
 exact hK
 conv=>whnf
 cases h
 exact hK
 conv=>whnf
 cases h
 exact hK
theorem w63 (q1:Zc Tryz.prog 144 c60) (q0:Zc Tryz.prog 207 c62):Zc Tryz.prog 165 c63:=by
 refine Zg YO (Ze q1 (Ze q0 Zj)) mixed {loops:=[(0,[.reg 4 (.dat (.int .i64)),.cello 1003 3 (.ol 235 (ZqC))])],draws:=[(1,[0,1,0,4,0,0,32,112,0,256,1008,0,2048,0,8192,32767,0,131071],.op 0 (.op 2 (.op 5 (.op 6 (.op 8 (.op 11 (.op 13 (.ld 1 (.ld 3 (.ld 9 (.ld 12 (.ld 14 (.alt 4 (.alt 7 (.alt 10 (.op 15 (.alt 16 (.alt 17 (.done) (.done)) (.done))) (.alt 16 (.alt 10 (.op 15 (.alt 17 (.done) (.done))) (.done)) (.done))) (.alt 16 (.alt 7 (.alt 10 (.op 15 (.alt 17 (.done) (.done))) (.done)) (.done)) (.done))) (.alt 16 (.alt 4 (.alt 7 (.alt 10 (.op 15 (.alt 17 (.done) (.done))) (.done)) (.done)) (.done)) (.done)))))))))))))))]} (fn:=Tryz.f165) Tryz.func165 (by kernel_rfl) (by kernel_rfl) ?_
 rintro ⟨c0,⟨⟩⟩ K ⟨r,h,hK⟩
 change Zd6 c0=some r at h
 unfold Zd6 at h
 focus
  conv=>whnf
  refine ⟨by kernel_rfl,?_⟩
  conv=>whnf
  refine ⟨by kernel_rfl,?_⟩
  conv=>whnf
  refine ⟨by kernel_rfl,?_⟩
  conv=>whnf
  refine ⟨by kernel_rfl,?_⟩
  conv=>whnf
  refine ⟨by kernel_rfl,?_⟩
  conv=>whnf
  refine ⟨by kernel_rfl,?_⟩
  conv=>whnf
  obtain ⟨hp0,h⟩:=guardE h
  obtain ⟨l02Ints0,hb1,h⟩:=Option.bind_eq_some_iff.1 h
  refine ⟨?_,?_⟩
  rotate_left
  focus
   conv=>whnf
   refine ⟨by kernel_rfl,?_⟩
   conv=>whnf
   refine ⟨hp0,?_⟩
   conv=>whnf
   refine ⟨_,hb1,?_⟩
   conv=>whnf
   refine ⟨trivial,?_⟩
  rotate_right
  focus
   conv=>whnf
   refine ⟨?_,?_⟩
   rotate_left
   focus
    conv=>whnf
    refine ⟨by kernel_rfl,?_⟩
    conv=>whnf
    refine ⟨hp0,?_⟩
    conv=>whnf
    refine ⟨_,hb1,?_⟩
    conv=>whnf
    refine ⟨trivial,?_⟩
   rotate_right
   focus
    conv=>whnf
    refine ⟨by kernel_rfl,?_⟩
    conv=>whnf
    refine ⟨hp0,?_⟩
    conv=>whnf
    refine ⟨?_,?_⟩
    rotate_left
    focus
     conv=>whnf
     refine ⟨_,hb1,?_⟩
     conv=>whnf
     refine ⟨trivial,?_⟩
    rotate_right
    focus
     conv=>whnf
     refine ⟨_,hb1,?_⟩
     conv=>whnf
     refine ⟨trivial,?_⟩
  all_goals
   conv=>whnf
   refine Yj h ?_
   rintro I2 μ2 ⟨i0,c1,⟨⟩⟩ zs2 h hI2 hR2
   change Jq c0 l02Ints0 i0 c1=some zs2 at h
   unfold Jq at h
   conv=>whnf
   intro fp3
   conv=>whnf
   refine Zz h (fun h=>?_) (fun h=>?_)
   conv=>whnf
   refine vAt h (fun x0 he4a he4b he4x h=>?_)
   conv=>whnf
   refine Zl h (fun l03OwnTables0 hb5 h=>?_)
   conv=>whnf
   intro fp6
   conv=>whnf
   refine Zl h (fun l03OwnTables1 hb7 h=>?_)
   conv=>whnf
   intro fp8
   conv=>whnf
   intro fp9
   conv=>whnf
   refine Qt h (fun hp10 h=>?_)
   conv=>whnf
   intro fp11
   conv=>whnf
   cases h
   exact ⟨⟨rfl,rfl⟩,hI2 _ rfl⟩
   conv=>whnf
   cases h
   obtain rfl:=hR2 _ rfl
   exact hK
theorem w64 (q0:Zc Tryz.prog 165 c63):Zc Tryz.prog 115 c64:=by
 refine Zg YO (Ze q0 Zj) mixed {loops:=[(0,[.reg 4 (.dat (.int .i64)),.cello 1003 0 (.ol 169 (Zjc))])],draws:=[(5,[0,1,0,4,0,28,60,124,252,511,1023,2047],.op 0 (.op 1 (.op 2 (.op 3 (.op 4 (.op 5 (.op 6 (.alt 7 (.alt 8 (.alt 9 (.op 10 (.alt 11 (.done) (.done))) (.done)) (.done)) (.done)))))))))]} (fn:=Tryz.f115) Tryz.func115 (by kernel_rfl) (by kernel_rfl) ?_
 rintro ⟨l0,⟨⟩⟩ K ⟨r,h,hK⟩
 change VF l0=some r at h
 unfold VF at h
 conv=>whnf
 refine Yj h ?_
 rintro I0 μ0 ⟨i0,c0,⟨⟩⟩ zs0 h hI0 hR0
 change Xm l0 i0 c0=some zs0 at h
 unfold Xm at h
 conv=>whnf
 intro fp1
 conv=>whnf
 refine Zz h (fun h=>?_) (fun h=>?_)
 conv=>whnf
 refine ⟨by kernel_rfl,?_⟩
 conv=>whnf
 refine vAt h (fun x0 he2a he2b he2x h=>?_)
 conv=>whnf
 refine Zl h (fun l03Own0 hb3 h=>?_)
 conv=>whnf
 intro fp4
 conv=>whnf
 intro fp5
 conv=>whnf
 refine Qt h (fun hp6 h=>?_)
 conv=>whnf
 intro fp7
 conv=>whnf
 refine ⟨trivial,?_⟩
 conv=>whnf
 cases h
 exact ⟨⟨rfl,rfl⟩,hI0 _ rfl⟩
 conv=>whnf
 cases h
 obtain rfl:=hR0 _ rfl
 exact hK
theorem w62 (q0:Zc Tryz.prog 232 c61):Zc Tryz.prog 207 c62:=by
 refine Zg YO (Ze q0 Zj) mixed {loops:=[(0,[.reg 3 (.own (.ol 263 (ZeJ))),.reg 4 (.dat (.int .i64))])]} (fn:=Tryz.f207) Tryz.func207 (by kernel_rfl) (by kernel_rfl) ?_
 rintro ⟨list0,⟨⟩⟩ K ⟨r,h,hK⟩
 change Ve list0=some r at h
 unfold Ve at h
 conv=>whnf
 intro fp0
 conv=>whnf
 refine Yj h ?_
 rintro I1 μ1 ⟨out0,i0,⟨⟩⟩ zs1 h hI1 hR1
 change Xu list0 out0 i0=some zs1 at h
 unfold Xu at h
 conv=>whnf
 intro fp2
 conv=>whnf
 refine Zz h (fun h=>?_) (fun h=>?_)
 conv=>whnf
 refine vAt h (fun x0 he3a he3b he3x h=>?_)
 conv=>whnf
 refine Zl h (fun l02Own0 hb4 h=>?_)
 conv=>whnf
 intro fp5
 conv=>whnf
 refine Qt h (fun hp6 h=>?_)
 conv=>whnf
 intro fp7
 conv=>whnf
 cases h
 exact ⟨⟨rfl,rfl⟩,hI1 _ rfl⟩
 conv=>whnf
 cases h
 obtain rfl:=hR1 _ rfl
 exact hK
theorem w48 (q0:Zc Tryz.prog 270 c47):Zc Tryz.prog 253 c48:=by
 refine Zg Zr (Ze q0 Zj) mixed {loops:=[(0,[.reg 5 (.dat (.int .i64))])]} (fn:=Tryz.f253) Tryz.func253 (by kernel_rfl) (by kernel_rfl) ?_
 rintro ⟨list0,positive0,⟨⟩⟩ K ⟨r,h,hK⟩
 change Yx list0 positive0=some r at h
 unfold Yx at h
 conv=>whnf
 refine Yb ?_
 refine Zz h (fun h=>?_) (fun h=>?_)
 conv=>whnf
 refine Yj h ?_
 rintro I0 μ0 ⟨i0,⟨⟩⟩ zs0 h hI0 hR0
 change VZ list0 positive0 i0=some zs0 at h
 unfold VZ at h
 conv=>whnf
 refine Zz h (fun h=>?_) (fun h=>?_)
 conv=>whnf
 refine vAt h (fun x0 he1a he1b he1x h=>?_)
 conv=>whnf
 refine Zl h (fun TableBounds0 hb2 h=>?_)
 conv=>whnf
 refine ZeX ?_
 refine Zz h (fun h=>?_) (fun h=>?_)
 conv=>whnf
 refine YJ h (fun h=>?_) (fun h=>?_)
 conv=>whnf
 refine Zz h (fun h=>?_) (fun h=>?_)
 conv=>whnf
 cases h
 obtain rfl:=hR0 _ rfl
 exact hK
 conv=>whnf
 cases h
 exact ⟨⟨rfl,rfl⟩,hI0 _ rfl⟩
 conv=>whnf
 cases h
 exact ⟨⟨rfl,rfl⟩,hI0 _ rfl⟩
 conv=>whnf
 cases h
 obtain rfl:=hR0 _ rfl
 exact hK
 conv=>whnf
 cases h
 obtain rfl:=hR0 _ rfl
 exact hK
 conv=>whnf
 cases h
 exact hK
theorem w73:Zc Tryz.prog 174 c73:=by
 refine Zg Zr Zj mixed {loops:=[(0,[.reg 5 (.dat (.int .i64))])]} (fn:=Tryz.f174) Tryz.func174 (by kernel_rfl) (by kernel_rfl) ?_
 rintro ⟨list0,word0,⟨⟩⟩ K ⟨r,h,hK⟩
 change Zdn list0 word0=some r at h
 unfold Zdn at h
 conv=>whnf
 refine Yj h ?_
 rintro I0 μ0 ⟨i0,⟨⟩⟩ zs0 h hI0 hR0
 change JM list0 word0 i0=some zs0 at h
 unfold JM at h
 conv=>whnf
 refine Zz h (fun h=>?_) (fun h=>?_)
 conv=>whnf
 refine vAt h (fun x0 he1a he1b he1x h=>?_)
 conv=>whnf
 refine Zz h (fun h=>?_) (fun h=>?_)
 conv=>whnf
 cases h
 obtain rfl:=hR0 _ rfl
 exact hK
 conv=>whnf
 cases h
 exact ⟨⟨rfl,rfl⟩,hI0 _ rfl⟩
 conv=>whnf
 cases h
 obtain rfl:=hR0 _ rfl
 exact hK
theorem w69 (q0:Zc Tryz.prog 78 c56) (q1:Zc Tryz.prog 121 c43):Zc Tryz.prog 66 c69:=by
 refine Zg Zr (Ze q0 (Ze q1 Zj)) mixed {draws:=[(9,[0,1,0,4,15,31,63,127,63,319,1023,2047,4095,8191,16383,8191,40959,8191,139263,499711,1023999,2072575,4169727,8364031,16777215,33554431,67108863],.op 0 (.op 1 (.op 2 (.op 3 (.alt 4 (.op 5 (.op 6 (.op 7 (.op 8 (.op 9 (.alt 10 (.op 11 (.op 12 (.op 13 (.op 14 (.op 15 (.op 16 (.op 17 (.op 18 (.op 19 (.op 20 (.op 21 (.op 22 (.op 23 (.alt 24 (.op 25 (.op 26 (.done))) (.done))))))))))))))) (.done))))))) (.done))))))]} (fn:=Tryz.f66) Tryz.func66 (by kernel_rfl) (by kernel_rfl) ?_
 rintro ⟨a0,a1,⟨⟩⟩ K ⟨r,h,hK⟩
 change Zct a0 a1=some r at h
 unfold Zct at h
 conv=>whnf
 refine Zl h (fun l05Places0 hb0 h=>?_)
 conv=>whnf
 refine Zz h (fun h=>?_) (fun h=>?_)
 conv=>whnf
 refine Zz h (fun h=>?_) (fun h=>?_)
 conv=>whnf
 refine Zl h (fun l01In0 hb1 h=>?_)
 conv=>whnf
 refine YJ h (fun h=>?_) (fun h=>?_)
 conv=>whnf
 refine Zl h (fun l01In1 hb2 h=>?_)
 conv=>whnf
 cases h
 exact hK
 conv=>whnf
 cases h
 exact hK
 conv=>whnf
 refine Zz h (fun h=>?_) (fun h=>?_)
 conv=>whnf
 refine ⟨by kernel_rfl,?_⟩
 conv=>whnf
 refine Zl h (fun l01In0 hb3 h=>?_)
 conv=>whnf
 refine YJ h (fun h=>?_) (fun h=>?_)
 conv=>whnf
 refine Zl h (fun l01In1 hb4 h=>?_)
 conv=>whnf
 refine YJ h (fun h=>?_) (fun h=>?_)
 conv=>whnf
 refine vAt h (fun x0 he5a he5b he5x h=>?_)
 conv=>whnf
 refine Zl h (fun l01In2 hb6 h=>?_)
 conv=>whnf
 refine ⟨trivial,?_⟩
 conv=>whnf
 cases h
 exact hK
 conv=>whnf
 refine ⟨trivial,?_⟩
 conv=>whnf
 cases h
 exact hK
 conv=>whnf
 refine ⟨trivial,?_⟩
 conv=>whnf
 cases h
 exact hK
 conv=>whnf
 refine Zz h (fun h=>?_) (fun h=>?_)
 conv=>whnf
 refine Zl h (fun l01In0 hb7 h=>?_)
 conv=>whnf
 cases h
 exact hK
 conv=>whnf
 cases h
 exact hK
 conv=>whnf
 refine Zz h (fun h=>?_) (fun h=>?_)
 conv=>whnf
 refine Zl h (fun l01In0 hb8 h=>?_)
 conv=>whnf
 refine YJ h (fun h=>?_) (fun h=>?_)
 conv=>whnf
 refine Zl h (fun l01In1 hb9 h=>?_)
 conv=>whnf
 cases h
 exact hK
 conv=>whnf
 cases h
 exact hK
 conv=>whnf
 refine Zz h (fun h=>?_) (fun h=>?_)
 conv=>whnf
 refine ⟨by kernel_rfl,?_⟩
 conv=>whnf
 refine Zl h (fun l01In0 hb10 h=>?_)
 conv=>whnf
 refine YJ h (fun h=>?_) (fun h=>?_)
 conv=>whnf
 refine Zl h (fun l01In1 hb11 h=>?_)
 conv=>whnf
 refine YJ h (fun h=>?_) (fun h=>?_)
 conv=>whnf
 refine vAt h (fun x0 he12a he12b he12x h=>?_)
 conv=>whnf
 refine Zl h (fun l01In2 hb13 h=>?_)
 conv=>whnf
 refine ⟨trivial,?_⟩
 conv=>whnf
 cases h
 exact hK
 conv=>whnf
 refine ⟨trivial,?_⟩
 conv=>whnf
 cases h
 exact hK
 conv=>whnf
 refine ⟨trivial,?_⟩
 conv=>whnf
 cases h
 exact hK
 conv=>whnf
 refine Zz h (fun h=>?_) (fun h=>?_)
 conv=>whnf
 refine Zl h (fun l01In0 hb14 h=>?_)
 conv=>whnf
 cases h
 exact hK
 conv=>whnf
 cases h
 exact hK
end Go.Proofs.YtehkanadahncgaaGreatDoor
