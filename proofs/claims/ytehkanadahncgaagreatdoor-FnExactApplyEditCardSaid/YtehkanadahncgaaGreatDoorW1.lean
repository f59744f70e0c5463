/-
  The functions keep their contracts, if what they call does. Printed by program.
-/
import Derived.Test.YtehkanadahncgaaGreatDoorM
import Derived.KernelRfl
namespace Go.Proofs.YtehkanadahncgaaGreatDoor
open Go Go.Sx
set_option maxRecDepth 100000
set_option maxHeartbeats 3200000
set_option linter.unusedVariables false
set_option linter.unusedSimpArgs false
theorem ZB0 (q0:Zc Tryz.prog 149 Zxg) (q1:Zc Tryz.prog 150 Zyq) (q2:Zc Tryz.prog 107 ZwA):Zc Tryz.prog 90 c167:=by
 refine Zg YS (Ze q0 (Ze q1 (Ze q2 Zj))) mixed {loops:=[(0,[.reg 16 (.dat (.int .i64)),.cello 1003 4 (.ol 64 (Zhu))])],draws:=[(1,[0,1,3,0,8,31,63,0,255],.op 0 (.op 1 (.op 3 (.op 4 (.alt 2 (.alt 5 (.op 6 (.alt 7 (.alt 8 (.done) (.done)) (.done))) (.alt 7 (.alt 5 (.op 6 (.alt 8 (.done) (.done))) (.done)) (.done))) (.alt 7 (.alt 2 (.alt 5 (.op 6 (.alt 8 (.done) (.done))) (.done)) (.done)) (.done))))))),(5,[0,1,0,4,12,31,63,127],.op 0 (.op 1 (.op 2 (.alt 3 (.alt 4 (.alt 5 (.op 6 (.alt 7 (.done) (.done))) (.done)) (.done)) (.done)))))]} (fn:=Tryz.f90) Tryz.func90 (by kernel_rfl) (by kernel_rfl) ?_
 rintro ⟨b0,⟨⟩⟩ K ⟨r,h,hK⟩
 change Zab b0=some r at h
 unfold Zab at h
 focus
  conv=>whnf
  refine ⟨by kernel_rfl,?_⟩
  conv=>whnf
  obtain ⟨cloneLibrary0,hb0,h⟩:=Option.bind_eq_some_iff.1 h
  obtain ⟨clone0,hb2,h⟩:=Option.bind_eq_some_iff.1 h
  refine ⟨?_,?_⟩
  rotate_left
  focus
   conv=>whnf
   refine ⟨_,hb0,?_⟩
   conv=>whnf
   intro fp12
   conv=>whnf
   refine ⟨_,hb2,?_⟩
   conv=>whnf
   intro fp13
   conv=>whnf
   refine ⟨trivial,?_⟩
  rotate_right
  focus
   conv=>whnf
   refine ⟨_,hb0,?_⟩
   conv=>whnf
   intro fp12
   conv=>whnf
   refine ⟨?_,?_⟩
   rotate_left
   focus
    conv=>whnf
    refine ⟨_,hb2,?_⟩
    conv=>whnf
    intro fp13
    conv=>whnf
    refine ⟨trivial,?_⟩
   rotate_right
   focus
    conv=>whnf
    refine ⟨_,hb2,?_⟩
    conv=>whnf
    intro fp13
    conv=>whnf
    refine ⟨trivial,?_⟩
  all_goals
   conv=>whnf
   refine Yk h ?_
   rintro I4 μ4 ⟨v0,c0,⟨⟩⟩ zs4 h hI4 hR4
   change XR b0 cloneLibrary0 clone0 v0 c0=some zs4 at h
   unfold XR at h
   conv=>whnf
   intro fp5
   conv=>whnf
   refine Zx h (fun h=>?_) (fun h=>?_)
   conv=>whnf
   refine vAt h (fun x0 he6a he6b he6x h=>?_)
   conv=>whnf
   refine ⟨by kernel_rfl,?_⟩
   conv=>whnf
   refine Zk h (fun clone1 hb7 h=>?_)
   conv=>whnf
   intro fp8
   conv=>whnf
   refine QZ h (fun hp9 h=>?_)
   conv=>whnf
   intro fp10
   conv=>whnf
   refine ⟨trivial,?_⟩
   conv=>whnf
   cases h
   exact ⟨⟨rfl,rfl⟩,hI4 _ rfl⟩
   conv=>whnf
   cases h
   obtain rfl:=hR4 _ rfl
   exact hK
theorem ZB6 (q0:Zc Tryz.prog 70 Zr6):Zc Tryz.prog 158 c173:=by
 refine Zg Zq (Ze q0 Zj) mixed {loops:=[(0,[.reg 5 (.own (.ol 2 (.flat (.int .i64)))),.reg 11 (.dat (.int .i64))])]} (fn:=Tryz.f158) Tryz.func158 (by kernel_rfl) (by kernel_rfl) ?_
 rintro ⟨d0,net0,⟨⟩⟩ K ⟨r,h,hK⟩
 change Jy d0 net0=some r at h
 unfold Jy at h
 conv=>whnf
 refine Zk h (fun places0 hb0 h=>?_)
 conv=>whnf
 refine Yk h ?_
 rintro I1 μ1 ⟨list0,v0,⟨⟩⟩ zs1 h hI1 hR1
 change QE net0 places0 list0 v0=some zs1 at h
 unfold QE at h
 conv=>whnf
 refine Zx h (fun h=>?_) (fun h=>?_)
 conv=>whnf
 refine vAt h (fun x0 he2a he2b he2x h=>?_)
 conv=>whnf
 refine ⟨by kernel_rfl,?_⟩
 conv=>whnf
 refine ⟨he2a,he2b,Zo he2x ?_⟩
 conv=>whnf
 refine Zx h (fun h=>?_) (fun h=>?_)
 conv=>whnf
 refine Z7 ?_
 refine YI h (fun h=>?_) (fun h=>?_)
 conv=>whnf
 cases h
 exact ⟨⟨rfl,rfl⟩,hI1 _ rfl⟩
 conv=>whnf
 refine QZ h (fun hp3 h=>?_)
 conv=>whnf
 cases h
 exact ⟨⟨rfl,rfl⟩,hI1 _ rfl⟩
 conv=>whnf
 cases h
 exact ⟨⟨rfl,rfl⟩,hI1 _ rfl⟩
 conv=>whnf
 cases h
 obtain rfl:=hR1 _ rfl
 exact hK
theorem Zzq (q1:Zc Tryz.prog 32 c138) (q0:Zc Tryz.prog 68 ZwP):Zc Tryz.prog 31 c156:=by
 refine Zg Zq (Ze q1 (Ze q0 Zj)) mixed {} (fn:=Tryz.f31) Tryz.func31 (by kernel_rfl) (by kernel_rfl) ?_
 rintro ⟨b0,e0,⟨⟩⟩ K ⟨r,h,hK⟩
 change Zcw b0 e0=some r at h
 unfold Zcw at h
 conv=>whnf
 refine Zk h (fun IsBlock0 hb0 h=>?_)
 conv=>whnf
 refine Z7 ?_
 refine YI h (fun h=>?_) (fun h=>?_)
 conv=>whnf
 refine Zk h (fun code0 hb1 h=>?_)
 conv=>whnf
 cases h
 exact hK
 conv=>whnf
 cases h
 exact hK
theorem ZyJ (q1:Zc Tryz.prog 277 Zxw) (q0:Zc Tryz.prog 278 ZxV):Zc Tryz.prog 276 Zw0:=by
 refine Zg Zq (Ze q1 (Ze q0 Zj)) mixed {} (fn:=Tryz.f276) Tryz.func276 (by kernel_rfl) (by kernel_rfl) ?_
 rintro ⟨t0,a0,⟨⟩⟩ K ⟨r,h,hK⟩
 change Qi t0 a0=some r at h
 unfold Qi at h
 conv=>whnf
 refine Zk h (fun IsTable0 hb0 h=>?_)
 conv=>whnf
 refine ZeV ?_
 refine YI h (fun h=>?_) (fun h=>?_)
 conv=>whnf
 refine YI h (fun h=>?_) (fun h=>?_)
 conv=>whnf
 refine Zk h (fun int64_0 hb1 h=>?_)
 conv=>whnf
 cases h
 exact hK
 conv=>whnf
 cases h
 exact hK
 conv=>whnf
 cases h
 exact hK
theorem ZAI:Zc Tryz.prog 178 c143:=by
 refine Zg Zq Zj mixed {} (fn:=Tryz.f178) Tryz.func178 (by kernel_rfl) (by kernel_rfl) ?_
 rintro ⟨list0,⟨⟩⟩ K ⟨r,h,hK⟩
 change Q8 list0=some r at h
 unfold Q8 at h
 conv=>whnf
 cases h
 exact hK
theorem w85:Zc Tryz.prog 137 c85:=by
 refine Zg Zq Zj mixed {} (fn:=Tryz.f137) Tryz.func137 (by kernel_rfl) (by kernel_rfl) ?_
 rintro ⟨x0,low0,high0,⟨⟩⟩ K ⟨r,h,hK⟩
 change Yl x0 low0 high0=some r at h
 unfold Yl at h
 conv=>whnf
 refine Zx h (fun h=>?_) (fun h=>?_)
 conv=>whnf
 cases h
 exact hK
 conv=>whnf
 cases h
 exact hK
theorem w_laws_FnExactApplyEdit (q5:Zc Tryz.prog 7 c18) (q8:Zc Tryz.prog 18 c19) (q6:Zc Tryz.prog 10 c38) (q9:Zc Tryz.prog 20 c39) (q0:Zc Tryz.prog 19 c84) (q1:Zc Tryz.prog 21 ZwU) (q7:Zc Tryz.prog 14 Zxe) (q10:Zc Tryz.prog 22 c196) (q2:Zc Tryz.prog 15 Zyr) (q4:Zc Tryz.prog 23 ZxW) (q3:Zc Tryz.prog 24 Zxm):Zc Tryz.prog 4 ZdA:=by
 refine Zg Zq (Ze q5 (Ze q8 (Ze q6 (Ze q9 (Ze q0 (Ze q1 (Ze q7 (Ze q10 (Ze q2 (Ze q4 (Ze q3 Zj))))))))))) mixed {draws:=[(8,[0,1,0,7,15,31,63,63,0,383,1023],.op 0 (.op 2 (.alt 1 (.alt 3 (.alt 4 (.op 5 (.op 6 (.op 7 (.alt 8 (.alt 9 (.op 10 (.done)) (.done)) (.done))))) (.alt 8 (.alt 4 (.op 5 (.op 6 (.op 7 (.alt 9 (.op 10 (.done)) (.done))))) (.done)) (.done))) (.alt 8 (.alt 3 (.alt 4 (.op 5 (.op 6 (.op 7 (.alt 9 (.op 10 (.done)) (.done))))) (.done)) (.done)) (.done))) (.alt 8 (.alt 1 (.alt 3 (.alt 4 (.op 5 (.op 6 (.op 7 (.alt 9 (.op 10 (.done)) (.done))))) (.done)) (.done)) (.done)) (.done))))),(14,[0,0,2,7,15],.op 0 (.op 1 (.alt 2 (.alt 3 (.op 4 (.done)) (.done)) (.done)))),(16,[0,0,2,7,15],.op 0 (.op 1 (.alt 2 (.alt 3 (.op 4 (.done)) (.done)) (.done)))),(31,[0,1,0,7,15,31,63,63,0,383,1023],.op 0 (.op 2 (.alt 1 (.alt 3 (.alt 4 (.op 5 (.op 6 (.op 7 (.alt 8 (.alt 9 (.op 10 (.done)) (.done)) (.done))))) (.alt 8 (.alt 4 (.op 5 (.op 6 (.op 7 (.alt 9 (.op 10 (.done)) (.done))))) (.done)) (.done))) (.alt 8 (.alt 3 (.alt 4 (.op 5 (.op 6 (.op 7 (.alt 9 (.op 10 (.done)) (.done))))) (.done)) (.done)) (.done))) (.alt 8 (.alt 1 (.alt 3 (.alt 4 (.op 5 (.op 6 (.op 7 (.alt 9 (.op 10 (.done)) (.done))))) (.done)) (.done)) (.done)) (.done)))))]} (fn:=Tryz.f4) Tryz.func4 (by kernel_rfl) (by kernel_rfl) ?_
 rintro ⟨a0,a1,⟨⟩⟩ K ⟨r,h,hK⟩
 change Vx a0 a1=some r at h
 unfold Vx at h
 conv=>whnf
 refine Zk h (fun szBlock0 hb0 h=>?_)
 conv=>whnf
 refine Zx h (fun h=>?_) (fun h=>?_)
 conv=>whnf
 cases h
 exact hK
 conv=>whnf
 refine Zk h (fun szEdit0 hb1 h=>?_)
 conv=>whnf
 refine Zx h (fun h=>?_) (fun h=>?_)
 conv=>whnf
 cases h
 exact hK
 focus
  conv=>whnf
  refine ⟨by kernel_rfl,?_⟩
  conv=>whnf
  obtain ⟨toBlock0,hb2,h⟩:=Option.bind_eq_some_iff.1 h
  obtain ⟨toEdit0,hb6,h⟩:=Option.bind_eq_some_iff.1 h
  obtain ⟨ApplyEdit0,hb7,h⟩:=Option.bind_eq_some_iff.1 h
  refine ⟨?_,?_⟩
  rotate_left
  focus
   conv=>whnf
   refine ⟨_,hb2,?_⟩
   conv=>whnf
   intro fp46
   conv=>whnf
   intro fp47
   conv=>whnf
   intro fp48
   conv=>whnf
   refine ⟨_,hb6,?_⟩
   conv=>whnf
   refine ⟨_,hb7,?_⟩
   conv=>whnf
   intro fp49
   conv=>whnf
   intro fp50
   conv=>whnf
   intro fp51
   conv=>whnf
   refine ⟨trivial,?_⟩
  rotate_right
  focus
   conv=>whnf
   refine ⟨_,hb2,?_⟩
   conv=>whnf
   intro fp46
   conv=>whnf
   intro fp47
   conv=>whnf
   intro fp48
   conv=>whnf
   refine ⟨?_,?_⟩
   rotate_left
   focus
    conv=>whnf
    refine ⟨_,hb6,?_⟩
    conv=>whnf
    refine ⟨_,hb7,?_⟩
    conv=>whnf
    intro fp49
    conv=>whnf
    intro fp50
    conv=>whnf
    intro fp51
    conv=>whnf
    refine ⟨trivial,?_⟩
   rotate_right
   focus
    conv=>whnf
    refine ⟨_,hb6,?_⟩
    conv=>whnf
    refine ⟨?_,?_⟩
    rotate_left
    focus
     conv=>whnf
     refine ⟨_,hb7,?_⟩
     conv=>whnf
     intro fp49
     conv=>whnf
     intro fp50
     conv=>whnf
     intro fp51
     conv=>whnf
     refine ⟨trivial,?_⟩
    rotate_right
    focus
     conv=>whnf
     refine ⟨_,hb7,?_⟩
     conv=>whnf
     intro fp49
     conv=>whnf
     intro fp50
     conv=>whnf
     intro fp51
     conv=>whnf
     refine ⟨trivial,?_⟩
  all_goals
   conv=>whnf
   refine ⟨_,hb2,?_⟩
   conv=>whnf
   intro fp11
   conv=>whnf
   intro fp12
   conv=>whnf
   intro fp13
   conv=>whnf
   refine ⟨_,hb6,?_⟩
   conv=>whnf
   refine Zk h (fun ApplyEdit1 hb14 h=>?_)
   conv=>whnf
   intro fp15
   conv=>whnf
   intro fp16
   conv=>whnf
   intro fp17
   conv=>whnf
   refine Zk h (fun eqBlock0 hb18 h=>?_)
   conv=>whnf
   refine ZeV ?_
   refine YI h (fun h=>?_) (fun h=>?_)
   conv=>whnf
   refine Z7 ?_
   refine Zx h (fun h=>?_) (fun h=>?_)
   conv=>whnf
   refine ⟨by kernel_rfl,?_⟩
   conv=>whnf
   refine ⟨_,hb2,?_⟩
   conv=>whnf
   intro fp19
   conv=>whnf
   intro fp20
   conv=>whnf
   intro fp21
   conv=>whnf
   refine Zk h (fun eqBlock1 hb22 h=>?_)
   conv=>whnf
   refine ⟨trivial,?_⟩
   conv=>whnf
   refine Z7 ?_
   refine YI h (fun h=>?_) (fun h=>?_)
   conv=>whnf
   refine ⟨by kernel_rfl,?_⟩
   conv=>whnf
   refine ⟨_,hb6,?_⟩
   conv=>whnf
   refine Zk h (fun eqEdit0 hb23 h=>?_)
   conv=>whnf
   refine ⟨trivial,?_⟩
   conv=>whnf
   refine Z7 ?_
   refine YI h (fun h=>?_) (fun h=>?_)
   conv=>whnf
   refine Zk h (fun markBlock0 hb24 h=>?_)
   conv=>whnf
   intro fp25
   conv=>whnf
   intro fp26
   conv=>whnf
   intro fp27
   conv=>whnf
   refine Zk h (fun markEdit0 hb28 h=>?_)
   conv=>whnf
   refine Zld h (fun h=>?_) (fun h=>?_)
   conv=>whnf
   cases h
   exact hK
   conv=>whnf
   refine ⟨_,hb18,?_⟩
   conv=>whnf
   refine ZeV ?_
   refine YI h (fun h=>?_) (fun h=>?_)
   conv=>whnf
   refine Z7 ?_
   refine Zx h (fun h=>?_) (fun h=>?_)
   conv=>whnf
   refine Zk h (fun markBlock1 hb29 h=>?_)
   conv=>whnf
   intro fp30
   conv=>whnf
   intro fp31
   conv=>whnf
   intro fp32
   conv=>whnf
   refine Zk h (fun heldBlock0 hb33 h=>?_)
   conv=>whnf
   refine Zx h (fun h=>?_) (fun h=>?_)
   conv=>whnf
   cases h
   exact hK
   conv=>whnf
   refine Z7 ?_
   refine Zx h (fun h=>?_) (fun h=>?_)
   focus
    conv=>whnf
    refine ⟨by kernel_rfl,?_⟩
    conv=>whnf
    refine ⟨?_,?_⟩
    rotate_left
    focus
     conv=>whnf
     refine ⟨_,hb2,?_⟩
     conv=>whnf
     intro fp34
     conv=>whnf
     intro fp35
     conv=>whnf
     intro fp36
     conv=>whnf
     refine ⟨_,hb6,?_⟩
     conv=>whnf
     refine ⟨_,hb14,?_⟩
     conv=>whnf
     intro fp37
     conv=>whnf
     intro fp38
     conv=>whnf
     intro fp39
     conv=>whnf
     refine ⟨trivial,?_⟩
    rotate_right
    focus
     conv=>whnf
     refine ⟨_,hb2,?_⟩
     conv=>whnf
     intro fp34
     conv=>whnf
     intro fp35
     conv=>whnf
     intro fp36
     conv=>whnf
     refine ⟨?_,?_⟩
     rotate_left
     focus
      conv=>whnf
      refine ⟨_,hb6,?_⟩
      conv=>whnf
      refine ⟨_,hb14,?_⟩
      conv=>whnf
      intro fp37
      conv=>whnf
      intro fp38
      conv=>whnf
      intro fp39
      conv=>whnf
      refine ⟨trivial,?_⟩
     rotate_right
     focus
      conv=>whnf
      refine ⟨_,hb6,?_⟩
      conv=>whnf
      refine ⟨?_,?_⟩
      rotate_left
      focus
       conv=>whnf
       refine ⟨_,hb14,?_⟩
       conv=>whnf
       intro fp37
       conv=>whnf
       intro fp38
       conv=>whnf
       intro fp39
       conv=>whnf
       refine ⟨trivial,?_⟩
      rotate_right
      focus
       conv=>whnf
       refine ⟨_,hb14,?_⟩
       conv=>whnf
       intro fp37
       conv=>whnf
       intro fp38
       conv=>whnf
       intro fp39
       conv=>whnf
       refine ⟨trivial,?_⟩
    all_goals
     conv=>whnf
     refine ⟨_,hb18,?_⟩
     conv=>whnf
     refine ZeV ?_
     refine YI h (fun h=>?_) (fun h=>?_)
     conv=>whnf
     refine Z7 ?_
     refine Zx h (fun h=>?_) (fun h=>?_)
     conv=>whnf
     refine ⟨_,hb33,?_⟩
     conv=>whnf
     refine Zx h (fun h=>?_) (fun h=>?_)
     conv=>whnf
     cases h
     exact hK
     conv=>whnf
     refine Z7 ?_
     refine Zx h (fun h=>?_) (fun h=>?_)
     conv=>whnf
     cases h
     exact hK
     conv=>whnf
     cases h
     exact hK
     conv=>whnf
     cases h
     exact hK
     conv=>whnf
     cases h
     exact hK
   conv=>whnf
   cases h
   exact hK
   conv=>whnf
   cases h
   exact hK
   conv=>whnf
   cases h
   exact hK
   conv=>whnf
   cases h
   exact hK
   conv=>whnf
   cases h
   exact hK
   conv=>whnf
   cases h
   exact hK
   conv=>whnf
   cases h
   exact hK
theorem ZzJ (q0:Zc Tryz.prog 151 Zxs):Zc Tryz.prog 92 Zw1:=by
 refine Zg Zq (Ze q0 Zj) mixed {loops:=[(0,[.reg 5 (.dat (.int .i64))])],draws:=[(6,[0,0,3,7,0,0,48,112,255,511],.op 0 (.op 1 (.op 2 (.op 3 (.op 4 (.op 5 (.op 6 (.op 7 (.alt 8 (.op 9 (.done)) (.done))))))))))]} (fn:=Tryz.f92) Tryz.func92 (by kernel_rfl) (by kernel_rfl) ?_
 rintro ⟨a0,b0,⟨⟩⟩ K ⟨r,h,hK⟩
 change Zdg a0 b0=some r at h
 unfold Zdg at h
 conv=>whnf
 refine Z7 ?_
 refine Zx h (fun h=>?_) (fun h=>?_)
 conv=>whnf
 refine Yk h ?_
 rintro I0 μ0 ⟨i0,⟨⟩⟩ zs0 h hI0 hR0
 change Zdk a0 b0 i0=some zs0 at h
 unfold Zdk at h
 conv=>whnf
 refine Zx h (fun h=>?_) (fun h=>?_)
 conv=>whnf
 refine ⟨by kernel_rfl,?_⟩
 conv=>whnf
 refine vAt h (fun x0 he1a he1b he1x h=>?_)
 conv=>whnf
 refine vAt h (fun x1 he2a he2b he2x h=>?_)
 conv=>whnf
 refine Zk h (fun eqCell0 hb3 h=>?_)
 conv=>whnf
 refine ⟨trivial,?_⟩
 conv=>whnf
 refine Z7 ?_
 refine YI h (fun h=>?_) (fun h=>?_)
 conv=>whnf
 cases h
 exact ⟨⟨rfl,rfl⟩,hI0 _ rfl⟩
 conv=>whnf
 cases h
 obtain rfl:=hR0 _ rfl
 exact hK
 conv=>whnf
 cases h
 obtain rfl:=hR0 _ rfl
 exact hK
 conv=>whnf
 cases h
 exact hK
theorem ZAZ (q0:Zc Tryz.prog 152 Zyg):Zc Tryz.prog 93 ZxN:=by
 refine Zg Zq (Ze q0 Zj) mixed {loops:=[(0,[.reg 5 (.dat (.int .i64))])],draws:=[(6,[0,0,3,7,0,0,48,112,255,511],.op 0 (.op 1 (.op 2 (.op 3 (.op 4 (.op 5 (.op 6 (.op 7 (.alt 8 (.op 9 (.done)) (.done))))))))))]} (fn:=Tryz.f93) Tryz.func93 (by kernel_rfl) (by kernel_rfl) ?_
 rintro ⟨a0,b0,⟨⟩⟩ K ⟨r,h,hK⟩
 change Zae a0 b0=some r at h
 unfold Zae at h
 conv=>whnf
 refine Z7 ?_
 refine Zx h (fun h=>?_) (fun h=>?_)
 conv=>whnf
 refine Yk h ?_
 rintro I0 μ0 ⟨i0,⟨⟩⟩ zs0 h hI0 hR0
 change ZbC a0 b0 i0=some zs0 at h
 unfold ZbC at h
 conv=>whnf
 refine Zx h (fun h=>?_) (fun h=>?_)
 conv=>whnf
 refine ⟨by kernel_rfl,?_⟩
 conv=>whnf
 refine vAt h (fun x0 he1a he1b he1x h=>?_)
 conv=>whnf
 refine vAt h (fun x1 he2a he2b he2x h=>?_)
 conv=>whnf
 refine Zk h (fun eqInstance0 hb3 h=>?_)
 conv=>whnf
 refine ⟨trivial,?_⟩
 conv=>whnf
 refine Z7 ?_
 refine YI h (fun h=>?_) (fun h=>?_)
 conv=>whnf
 cases h
 exact ⟨⟨rfl,rfl⟩,hI0 _ rfl⟩
 conv=>whnf
 cases h
 obtain rfl:=hR0 _ rfl
 exact hK
 conv=>whnf
 cases h
 obtain rfl:=hR0 _ rfl
 exact hK
 conv=>whnf
 cases h
 exact hK
theorem ZBl:Zc Tryz.prog 94 ZxT:=by
 refine Zg Zq Zj mixed {loops:=[(0,[.reg 5 (.dat (.int .i64))])],draws:=[(6,[0,0,3,7,0,0,48,112,255],.op 0 (.op 1 (.op 2 (.op 3 (.op 4 (.op 5 (.op 6 (.op 7 (.op 8 (.done))))))))))]} (fn:=Tryz.f94) Tryz.func94 (by kernel_rfl) (by kernel_rfl) ?_
 rintro ⟨a0,b0,⟨⟩⟩ K ⟨r,h,hK⟩
 change Zbx a0 b0=some r at h
 unfold Zbx at h
 conv=>whnf
 refine Z7 ?_
 refine Zx h (fun h=>?_) (fun h=>?_)
 conv=>whnf
 refine Yk h ?_
 rintro I0 μ0 ⟨i0,⟨⟩⟩ zs0 h hI0 hR0
 change ZcD a0 b0 i0=some zs0 at h
 unfold ZcD at h
 conv=>whnf
 refine Zx h (fun h=>?_) (fun h=>?_)
 conv=>whnf
 refine ⟨by kernel_rfl,?_⟩
 conv=>whnf
 refine vAt h (fun x0 he1a he1b he1x h=>?_)
 conv=>whnf
 refine vAt h (fun x1 he2a he2b he2x h=>?_)
 conv=>whnf
 refine ⟨trivial,?_⟩
 conv=>whnf
 refine Z7 ?_
 refine Zx h (fun h=>?_) (fun h=>?_)
 conv=>whnf
 cases h
 exact ⟨⟨rfl,rfl⟩,hI0 _ rfl⟩
 conv=>whnf
 cases h
 obtain rfl:=hR0 _ rfl
 exact hK
 conv=>whnf
 cases h
 obtain rfl:=hR0 _ rfl
 exact hK
 conv=>whnf
 cases h
 exact hK
theorem ZAv (q0:Zc Tryz.prog 205 ZwS):Zc Tryz.prog 161 Zxy:=by
 refine Zg Zq (Ze q0 Zj) mixed {loops:=[(0,[.reg 1 (.dat (.int .i64)),.reg 5 (.dat (.int .i64))])]} (fn:=Tryz.f161) Tryz.func161 (by kernel_rfl) (by kernel_rfl) ?_
 rintro ⟨a0,a1,⟨⟩⟩ K ⟨r,h,hK⟩
 change Zb7 a0 a1=some r at h
 unfold Zb7 at h
 conv=>whnf
 refine Yk h ?_
 rintro I0 μ0 ⟨v0,v1,⟨⟩⟩ zs0 h hI0 hR0
 change Vm a0 v0 v1=some zs0 at h
 unfold Vm at h
 conv=>whnf
 refine Zx h (fun h=>?_) (fun h=>?_)
 conv=>whnf
 refine vAt h (fun x0 he1a he1b he1x h=>?_)
 conv=>whnf
 refine Z7 ?_
 refine Zx h (fun h=>?_) (fun h=>?_)
 conv=>whnf
 refine ⟨he1a,he1b,Zo he1x ?_⟩
 conv=>whnf
 refine Z7 ?_
 refine Zx h (fun h=>?_) (fun h=>?_)
 conv=>whnf
 refine ⟨he1a,he1b,Zo he1x ?_⟩
 conv=>whnf
 refine Z7 ?_
 refine Zx h (fun h=>?_) (fun h=>?_)
 conv=>whnf
 refine ⟨he1a,he1b,Zo he1x ?_⟩
 conv=>whnf
 refine Z7 ?_
 refine Zx h (fun h=>?_) (fun h=>?_)
 conv=>whnf
 refine ⟨he1a,he1b,Zo he1x ?_⟩
 conv=>whnf
 refine Zk h (fun heldTableS0 hb2 h=>?_)
 conv=>whnf
 refine Zx h (fun h=>?_) (fun h=>?_)
 conv=>whnf
 cases h
 obtain rfl:=hR0 _ rfl
 exact hK
 conv=>whnf
 refine ⟨he1a,he1b,Zo he1x ?_⟩
 conv=>whnf
 refine Zk h (fun heldTableS1 hb3 h=>?_)
 conv=>whnf
 refine Zx h (fun h=>?_) (fun h=>?_)
 conv=>whnf
 cases h
 obtain rfl:=hR0 _ rfl
 exact hK
 conv=>whnf
 cases h
 exact ⟨⟨rfl,rfl⟩,hI0 _ rfl⟩
 conv=>whnf
 cases h
 obtain rfl:=hR0 _ rfl
 exact hK
 conv=>whnf
 cases h
 obtain rfl:=hR0 _ rfl
 exact hK
 conv=>whnf
 cases h
 obtain rfl:=hR0 _ rfl
 exact hK
 conv=>whnf
 cases h
 obtain rfl:=hR0 _ rfl
 exact hK
 conv=>whnf
 cases h
 obtain rfl:=hR0 _ rfl
 exact hK
theorem ZBb (q0:Zc Tryz.prog 51 c213):Zc Tryz.prog 205 ZwS:=by
 refine Zg Zq (Ze q0 Zj) mixed {loops:=[(0,[.reg 1 (.dat (.int .i64)),.reg 5 (.dat (.int .i64))])]} (fn:=Tryz.f205) Tryz.func205 (by kernel_rfl) (by kernel_rfl) ?_
 rintro ⟨a0,k0,⟨⟩⟩ K ⟨r,h,hK⟩
 change JW a0 k0=some r at h
 unfold JW at h
 conv=>whnf
 refine Yk h ?_
 rintro I0 μ0 ⟨k1,i0,⟨⟩⟩ zs0 h hI0 hR0
 change Qj a0 k1 i0=some zs0 at h
 unfold Qj at h
 conv=>whnf
 refine Zx h (fun h=>?_) (fun h=>?_)
 conv=>whnf
 refine vAt h (fun x0 he1a he1b he1x h=>?_)
 conv=>whnf
 refine Zk h (fun heldInt64S0 hb2 h=>?_)
 conv=>whnf
 refine Zx h (fun h=>?_) (fun h=>?_)
 conv=>whnf
 cases h
 obtain rfl:=hR0 _ rfl
 exact hK
 conv=>whnf
 refine ⟨he1a,he1b,Zo he1x ?_⟩
 conv=>whnf
 refine Zk h (fun heldInt64S1 hb3 h=>?_)
 conv=>whnf
 refine Zx h (fun h=>?_) (fun h=>?_)
 conv=>whnf
 cases h
 obtain rfl:=hR0 _ rfl
 exact hK
 conv=>whnf
 refine ⟨he1a,he1b,Zo he1x ?_⟩
 conv=>whnf
 refine Zk h (fun heldInt64S2 hb4 h=>?_)
 conv=>whnf
 refine Zx h (fun h=>?_) (fun h=>?_)
 conv=>whnf
 cases h
 obtain rfl:=hR0 _ rfl
 exact hK
 conv=>whnf
 cases h
 exact ⟨⟨rfl,rfl⟩,hI0 _ rfl⟩
 conv=>whnf
 cases h
 obtain rfl:=hR0 _ rfl
 exact hK
theorem ZCn (q0:Zc Tryz.prog 51 c213):Zc Tryz.prog 59 c222:=by
 refine Zg Zq (Ze q0 Zj) mixed {loops:=[(0,[.reg 1 (.dat (.int .i64)),.reg 5 (.dat (.int .i64))])]} (fn:=Tryz.f59) Tryz.func59 (by kernel_rfl) (by kernel_rfl) ?_
 rintro ⟨a0,k0,⟨⟩⟩ K ⟨r,h,hK⟩
 change Zbg a0 k0=some r at h
 unfold Zbg at h
 conv=>whnf
 refine Yk h ?_
 rintro I0 μ0 ⟨k1,i0,⟨⟩⟩ zs0 h hI0 hR0
 change QN a0 k1 i0=some zs0 at h
 unfold QN at h
 conv=>whnf
 refine Zx h (fun h=>?_) (fun h=>?_)
 conv=>whnf
 refine vAt h (fun x0 he1a he1b he1x h=>?_)
 conv=>whnf
 refine Zk h (fun heldInt64S0 hb2 h=>?_)
 conv=>whnf
 refine Zx h (fun h=>?_) (fun h=>?_)
 conv=>whnf
 cases h
 obtain rfl:=hR0 _ rfl
 exact hK
 conv=>whnf
 refine ⟨he1a,he1b,Zo he1x ?_⟩
 conv=>whnf
 refine Zk h (fun heldInt64S1 hb3 h=>?_)
 conv=>whnf
 refine Zx h (fun h=>?_) (fun h=>?_)
 conv=>whnf
 cases h
 obtain rfl:=hR0 _ rfl
 exact hK
 conv=>whnf
 refine ⟨he1a,he1b,Zo he1x ?_⟩
 conv=>whnf
 refine Zk h (fun heldInt64S2 hb4 h=>?_)
 conv=>whnf
 refine Zx h (fun h=>?_) (fun h=>?_)
 conv=>whnf
 cases h
 obtain rfl:=hR0 _ rfl
 exact hK
 conv=>whnf
 refine ⟨he1a,he1b,Zo he1x ?_⟩
 conv=>whnf
 refine Zk h (fun heldInt64S3 hb5 h=>?_)
 conv=>whnf
 refine Zx h (fun h=>?_) (fun h=>?_)
 conv=>whnf
 cases h
 obtain rfl:=hR0 _ rfl
 exact hK
 conv=>whnf
 cases h
 exact ⟨⟨rfl,rfl⟩,hI0 _ rfl⟩
 conv=>whnf
 cases h
 obtain rfl:=hR0 _ rfl
 exact hK
theorem ZAl:Zc Tryz.prog 50 Zu9:=by
 refine Zg YS Zj mixed {loops:=[(0,[.reg 1 (.dat (.int .i64)),.reg 5 (.dat (.int .i64)),.ent 0 (nat_lit 2) (.flat (Ty.int IntKind.i64))])]} (fn:=Tryz.f50) Tryz.func50 (by kernel_rfl) (by kernel_rfl) ?_
 rintro ⟨a0,k0,⟨⟩⟩ K ⟨r,h,hK⟩
 change Yj a0 k0=some r at h
 unfold Yj at h
 conv=>whnf
 refine Yk h ?_
 rintro I0 μ0 ⟨k1,i0,l0,⟨⟩⟩ zs0 h hI0 hR0
 change Xp k1 i0 l0=some zs0 at h
 unfold Xp at h
 conv=>whnf
 refine Zx h (fun h=>?_) (fun h=>?_)
 conv=>whnf
 refine vAt h (fun x0 he1a he1b he1x h=>?_)
 conv=>whnf
 refine ⟨by kernel_rfl,?_⟩
 conv=>whnf
 refine ⟨by decide,?_⟩
 conv=>whnf
 refine ⟨he1a,he1b,Zo he1x ?_⟩
 conv=>whnf
 cases h
 exact ⟨⟨rfl,rfl⟩,hI0 _ rfl⟩
 conv=>whnf
 cases h
 obtain rfl:=hR0 _ rfl
 exact hK
theorem ZzT (q0:Zc Tryz.prog 49 Zry):Zc Tryz.prog 98 ZxJ:=by
 refine Zg YS (Ze q0 Zj) mixed {loops:=[(0,[.reg 1 (.dat (.int .i64)),.reg 5 (.dat (.int .i64)),.ent 0 (nat_lit 9) (.flat Ty.str)])]} (fn:=Tryz.f98) Tryz.func98 (by kernel_rfl) (by kernel_rfl) ?_
 rintro ⟨a0,k0,⟨⟩⟩ K ⟨r,h,hK⟩
 change QY a0 k0=some r at h
 unfold QY at h
 conv=>whnf
 refine Yk h ?_
 rintro I0 μ0 ⟨k1,i0,l0,⟨⟩⟩ zs0 h hI0 hR0
 change Xe k1 i0 l0=some zs0 at h
 unfold Xe at h
 conv=>whnf
 refine Zx h (fun h=>?_) (fun h=>?_)
 conv=>whnf
 refine Zk h (fun markText0 hb1 h=>?_)
 conv=>whnf
 refine vAt h (fun x0 he2a he2b he2x h=>?_)
 conv=>whnf
 refine ⟨by kernel_rfl,?_⟩
 conv=>whnf
 refine ⟨by decide,?_⟩
 conv=>whnf
 refine ⟨he2a,he2b,Zo he2x ?_⟩
 conv=>whnf
 cases h
 exact ⟨⟨rfl,rfl⟩,hI0 _ rfl⟩
 conv=>whnf
 cases h
 obtain rfl:=hR0 _ rfl
 exact hK
theorem w5 (q0:Zc Tryz.prog 250 c4):Zc Tryz.prog 224 c5:=by
 refine Zg Zq (Ze q0 Zj) mixed {} (fn:=Tryz.f224) Tryz.func224 (by kernel_rfl) (by kernel_rfl) ?_
 rintro ⟨a0,left0,⟨⟩⟩ K ⟨r,h,hK⟩
 change Zbw a0 left0=some r at h
 unfold Zbw at h
 conv=>whnf
 refine Zk h (fun szTableS0 hb0 h=>?_)
 conv=>whnf
 refine Zx h (fun h=>?_) (fun h=>?_)
 conv=>whnf
 cases h
 exact hK
 conv=>whnf
 refine Zk h (fun szTableS1 hb1 h=>?_)
 conv=>whnf
 refine Zx h (fun h=>?_) (fun h=>?_)
 conv=>whnf
 cases h
 exact hK
 conv=>whnf
 cases h
 exact hK
theorem w6 (q0:Zc Tryz.prog 224 c5):Zc Tryz.prog 193 c6:=by
 refine Zg Zq (Ze q0 Zj) mixed {loops:=[(0,[.reg 1 (.dat (.int .i64)),.reg 5 (.dat (.int .i64))])]} (fn:=Tryz.f193) Tryz.func193 (by kernel_rfl) (by kernel_rfl) ?_
 rintro ⟨a0,left0,⟨⟩⟩ K ⟨r,h,hK⟩
 change ZbU a0 left0=some r at h
 unfold ZbU at h
 conv=>whnf
 refine Zx h (fun h=>?_) (fun h=>?_)
 conv=>whnf
 cases h
 exact hK
 conv=>whnf
 refine Yk h ?_
 rintro I0 μ0 ⟨left1,i0,⟨⟩⟩ zs0 h hI0 hR0
 change Zej a0 left1 i0=some zs0 at h
 unfold Zej at h
 conv=>whnf
 refine Zx h (fun h=>?_) (fun h=>?_)
 conv=>whnf
 refine vAt h (fun x0 he1a he1b he1x h=>?_)
 conv=>whnf
 refine Zk h (fun szArc0 hb2 h=>?_)
 conv=>whnf
 refine Zx h (fun h=>?_) (fun h=>?_)
 conv=>whnf
 cases h
 obtain rfl:=hR0 _ rfl
 exact hK
 conv=>whnf
 cases h
 exact ⟨⟨rfl,rfl⟩,hI0 _ rfl⟩
 conv=>whnf
 cases h
 obtain rfl:=hR0 _ rfl
 exact hK
theorem w18 (q0:Zc Tryz.prog 34 c9) (q1:Zc Tryz.prog 35 c15) (q2:Zc Tryz.prog 36 c17):Zc Tryz.prog 7 c18:=by
 refine Zg Zq (Ze q0 (Ze q1 (Ze q2 Zj))) mixed {} (fn:=Tryz.f7) Tryz.func7 (by kernel_rfl) (by kernel_rfl) ?_
 rintro ⟨a0,left0,⟨⟩⟩ K ⟨r,h,hK⟩
 change ZaV a0 left0=some r at h
 unfold ZaV at h
 conv=>whnf
 refine Zk h (fun szLibrary0 hb0 h=>?_)
 conv=>whnf
 refine Zx h (fun h=>?_) (fun h=>?_)
 conv=>whnf
 cases h
 exact hK
 conv=>whnf
 refine Zk h (fun szDesign0 hb1 h=>?_)
 conv=>whnf
 refine Zx h (fun h=>?_) (fun h=>?_)
 conv=>whnf
 cases h
 exact hK
 conv=>whnf
 refine Zk h (fun szWireS0 hb2 h=>?_)
 conv=>whnf
 refine Zx h (fun h=>?_) (fun h=>?_)
 conv=>whnf
 cases h
 exact hK
 conv=>whnf
 cases h
 exact hK
theorem w11 (q0:Zc Tryz.prog 142 c10):Zc Tryz.prog 75 c11:=by
 refine Zg Zq (Ze q0 Zj) mixed {loops:=[(0,[.reg 1 (.dat (.int .i64)),.reg 5 (.dat (.int .i64))])]} (fn:=Tryz.f75) Tryz.func75 (by kernel_rfl) (by kernel_rfl) ?_
 rintro ⟨a0,left0,⟨⟩⟩ K ⟨r,h,hK⟩
 change QX a0 left0=some r at h
 unfold QX at h
 conv=>whnf
 refine Zx h (fun h=>?_) (fun h=>?_)
 conv=>whnf
 cases h
 exact hK
 conv=>whnf
 refine Yk h ?_
 rintro I0 μ0 ⟨left1,i0,⟨⟩⟩ zs0 h hI0 hR0
 change ZbE a0 left1 i0=some zs0 at h
 unfold ZbE at h
 conv=>whnf
 refine Zx h (fun h=>?_) (fun h=>?_)
 conv=>whnf
 refine vAt h (fun x0 he1a he1b he1x h=>?_)
 conv=>whnf
 refine Zk h (fun szInstance0 hb2 h=>?_)
 conv=>whnf
 refine Zx h (fun h=>?_) (fun h=>?_)
 conv=>whnf
 cases h
 obtain rfl:=hR0 _ rfl
 exact hK
 conv=>whnf
 cases h
 exact ⟨⟨rfl,rfl⟩,hI0 _ rfl⟩
 conv=>whnf
 cases h
 obtain rfl:=hR0 _ rfl
 exact hK
theorem w13:Zc Tryz.prog 143 c13:=by
 refine Zg Zq Zj mixed {} (fn:=Tryz.f143) Tryz.func143 (by kernel_rfl) (by kernel_rfl) ?_
 rintro ⟨a0,left0,⟨⟩⟩ K ⟨r,h,hK⟩
 change ZaE a0 left0=some r at h
 unfold ZaE at h
 conv=>whnf
 refine Zx h (fun h=>?_) (fun h=>?_)
 conv=>whnf
 cases h
 exact hK
 conv=>whnf
 cases h
 exact hK
theorem w14 (q0:Zc Tryz.prog 143 c13):Zc Tryz.prog 77 c14:=by
 refine Zg Zq (Ze q0 Zj) mixed {loops:=[(0,[.reg 1 (.dat (.int .i64)),.reg 5 (.dat (.int .i64))])]} (fn:=Tryz.f77) Tryz.func77 (by kernel_rfl) (by kernel_rfl) ?_
 rintro ⟨a0,left0,⟨⟩⟩ K ⟨r,h,hK⟩
 change Za0 a0 left0=some r at h
 unfold Za0 at h
 conv=>whnf
 refine Zx h (fun h=>?_) (fun h=>?_)
 conv=>whnf
 cases h
 exact hK
 conv=>whnf
 refine Yk h ?_
 rintro I0 μ0 ⟨left1,i0,⟨⟩⟩ zs0 h hI0 hR0
 change Zdp a0 left1 i0=some zs0 at h
 unfold Zdp at h
 conv=>whnf
 refine Zx h (fun h=>?_) (fun h=>?_)
 conv=>whnf
 refine vAt h (fun x0 he1a he1b he1x h=>?_)
 conv=>whnf
 refine Zk h (fun szPort0 hb2 h=>?_)
 conv=>whnf
 refine Zx h (fun h=>?_) (fun h=>?_)
 conv=>whnf
 cases h
 obtain rfl:=hR0 _ rfl
 exact hK
 conv=>whnf
 cases h
 exact ⟨⟨rfl,rfl⟩,hI0 _ rfl⟩
 conv=>whnf
 cases h
 obtain rfl:=hR0 _ rfl
 exact hK
theorem w25 (q0:Zc Tryz.prog 251 c24):Zc Tryz.prog 226 c25:=by
 refine Zg YS (Ze q0 Zj) mixed {} (fn:=Tryz.f226) Tryz.func226 (by kernel_rfl) (by kernel_rfl) ?_
 rintro ⟨a0,⟨⟩⟩ K ⟨r,h,hK⟩
 change Zd1 a0=some r at h
 unfold Zd1 at h
 conv=>whnf
 refine Zk h (fun toTableS0 hb0 h=>?_)
 conv=>whnf
 intro fp1
 conv=>whnf
 refine Zk h (fun toTableS1 hb2 h=>?_)
 conv=>whnf
 intro fp3
 conv=>whnf
 cases h
 exact hK
theorem w21 (q0:Zc Tryz.prog 225 c20):Zc Tryz.prog 194 c21:=by
 refine Zg Zq (Ze q0 Zj) mixed {loops:=[(0,[.reg 4 (.dat (.int .i64)),.ent 0 (nat_lit 218) (.flat ZsP.ety)])]} (fn:=Tryz.f194) Tryz.func194 (by kernel_rfl) (by kernel_rfl) ?_
 rintro ⟨a0,⟨⟩⟩ K ⟨r,h,hK⟩
 change Zel a0=some r at h
 unfold Zel at h
 conv=>whnf
 refine QZ h (fun hp0 h=>?_)
 conv=>whnf
 refine QZ h (fun hp1 h=>?_)
 conv=>whnf
 refine QZ h (fun hp2 h=>?_)
 conv=>whnf
 refine QZ h (fun hp3 h=>?_)
 conv=>whnf
 refine Yk h ?_
 rintro I4 μ4 ⟨i0,l0,⟨⟩⟩ zs4 h hI4 hR4
 change Zeg a0 i0 l0=some zs4 at h
 unfold Zeg at h
 conv=>whnf
 refine Zx h (fun h=>?_) (fun h=>?_)
 conv=>whnf
 refine vAt h (fun x0 he5a he5b he5x h=>?_)
 conv=>whnf
 refine Zk h (fun toPin0 hb6 h=>?_)
 conv=>whnf
 refine vAt h (fun x1 he7a he7b he7x h=>?_)
 conv=>whnf
 refine ⟨by kernel_rfl,?_⟩
 conv=>whnf
 refine ⟨by decide,?_⟩
 conv=>whnf
 refine ⟨he7a,he7b,Zo he7x ?_⟩
 conv=>whnf
 cases h
 exact ⟨⟨rfl,rfl⟩,hI4 _ rfl⟩
 conv=>whnf
 cases h
 obtain rfl:=hR4 _ rfl
 exact hK
theorem w33:Zc Tryz.prog 148 c33:=by
 refine Zg Zq Zj mixed {} (fn:=Tryz.f148) Tryz.func148 (by kernel_rfl) (by kernel_rfl) ?_
 rintro ⟨a0,⟨⟩⟩ K ⟨r,h,hK⟩
 change ZcS a0=some r at h
 unfold ZcS at h
 conv=>whnf
 cases h
 exact hK
theorem w36 (q0:Zc Tryz.prog 101 c22):Zc Tryz.prog 53 c36:=by
 refine Zg Zq (Ze q0 Zj) mixed {} (fn:=Tryz.f53) Tryz.func53 (by kernel_rfl) (by kernel_rfl) ?_
 rintro ⟨a0,⟨⟩⟩ K ⟨r,h,hK⟩
 change ZbQ a0=some r at h
 unfold ZbQ at h
 conv=>whnf
 refine Zk h (fun toInt64S0 hb0 h=>?_)
 conv=>whnf
 refine Zk h (fun toInt64S1 hb1 h=>?_)
 conv=>whnf
 refine Zk h (fun toInt64S2 hb2 h=>?_)
 conv=>whnf
 refine Zk h (fun toInt64S3 hb3 h=>?_)
 conv=>whnf
 cases h
 exact hK
theorem ZB4:Zc Tryz.prog 196 c157:=by
 refine Zg Zq Zj mixed {} (fn:=Tryz.f196) Tryz.func196 (by kernel_rfl) (by kernel_rfl) ?_
 rintro ⟨s0,⟨⟩⟩ K ⟨r,h,hK⟩
 change YX s0=some r at h
 unfold YX at h
 conv=>whnf
 refine ⟨fun hd=>?_,?_⟩
 have h:=Zrl (T:=(some ([]:List Yu))) h (by simp [hd,ZA])
 conv=>whnf
 cases h
 exact hK
 conv=>whnf
 refine QZ h (fun hp0 h=>?_)
 conv=>whnf
 cases h
 exact hK
theorem Zzl:Zc Tryz.prog 159 Zvs:=by
 refine Zg Zq Zj mixed {} (fn:=Tryz.f159) Tryz.func159 (by kernel_rfl) (by kernel_rfl) ?_
 rintro ⟨s0,⟨⟩⟩ K ⟨r,h,hK⟩
 change Z4 s0=some r at h
 unfold Z4 at h
 conv=>whnf
 refine ⟨fun hd=>?_,?_⟩
 have h:=Zrl (T:=(some ([]:List Int))) h (by simp [hd,ZA])
 conv=>whnf
 cases h
 exact hK
 conv=>whnf
 refine QZ h (fun hp0 h=>?_)
 conv=>whnf
 cases h
 exact hK
theorem ZAL (q0:Zc Tryz.prog 265 Zxn):Zc Tryz.prog 246 Zxu:=by
 refine Zg Zq (Ze q0 Zj) mixed {} (fn:=Tryz.f246) Tryz.func246 (by kernel_rfl) (by kernel_rfl) ?_
 rintro ⟨s0,f0,⟨⟩⟩ K ⟨r,h,hK⟩
 change ZG s0 f0=some r at h
 unfold ZG at h
 conv=>whnf
 refine Zk h (fun c1_0 hb0 h=>?_)
 conv=>whnf
 cases h
 exact hK
theorem ZAe (q0:Zc Tryz.prog 247 ZxK):Zc Tryz.prog 265 Zxn:=by
 refine Zg Zq (Ze q0 Zj) mixed {loops:=[(0,[.reg 8 (.dat (.int .i64))])]} (fn:=Tryz.f265) Tryz.func265 (by kernel_rfl) (by kernel_rfl) ?_
 rintro ⟨s0,f0,⟨⟩⟩ K ⟨r,h,hK⟩
 change ZJ s0 f0=some r at h
 unfold ZJ at h
 conv=>whnf
 refine Yk h ?_
 rintro I0 μ0 ⟨v0,⟨⟩⟩ zs0 h hI0 hR0
 change ZP s0 f0 v0=some zs0 at h
 unfold ZP at h
 conv=>whnf
 refine Zx h (fun h=>?_) (fun h=>?_)
 conv=>whnf
 refine vAt h (fun x0 he1a he1b he1x h=>?_)
 conv=>whnf
 refine Zk h (fun c1_0 hb2 h=>?_)
 conv=>whnf
 refine YI h (fun h=>?_) (fun h=>?_)
 conv=>whnf
 cases h
 obtain rfl:=hR0 _ rfl
 exact hK
 conv=>whnf
 cases h
 exact ⟨⟨rfl,rfl⟩,hI0 _ rfl⟩
 conv=>whnf
 cases h
 obtain rfl:=hR0 _ rfl
 exact hK
theorem w68 (q3:Zc Tryz.prog 60 c57) (q0:Zc Tryz.prog 65 c58) (q1:Zc Tryz.prog 66 c59) (q2:Zc Tryz.prog 67 c67):Zc Tryz.prog 30 c68:=by
 refine Zg Zq (Ze q3 (Ze q0 (Ze q1 (Ze q2 Zj)))) mixed {} (fn:=Tryz.f30) Tryz.func30 (by kernel_rfl) (by kernel_rfl) ?_
 rintro ⟨b0,e0,⟨⟩⟩ K ⟨r,h,hK⟩
 change Zcu b0 e0=some r at h
 unfold Zcu at h
 conv=>whnf
 refine Zk h (fun IsBlock0 hb0 h=>?_)
 conv=>whnf
 refine Z7 ?_
 refine YI h (fun h=>?_) (fun h=>?_)
 conv=>whnf
 refine Zk h (fun l08Blank0 hb1 h=>?_)
 conv=>whnf
 refine ZeV ?_
 refine YI h (fun h=>?_) (fun h=>?_)
 conv=>whnf
 refine Zk h (fun l08Range0 hb2 h=>?_)
 conv=>whnf
 refine Z7 ?_
 refine YI h (fun h=>?_) (fun h=>?_)
 conv=>whnf
 refine Zk h (fun l08State0 hb3 h=>?_)
 conv=>whnf
 refine Z7 ?_
 refine YI h (fun h=>?_) (fun h=>?_)
 conv=>whnf
 refine Zx h (fun h=>?_) (fun h=>?_)
 conv=>whnf
 refine Zld h (fun h=>?_) (fun h=>?_)
 conv=>whnf
 cases h
 exact hK
 conv=>whnf
 refine Zx h (fun h=>?_) (fun h=>?_)
 conv=>whnf
 cases h
 exact hK
 conv=>whnf
 cases h
 exact hK
 conv=>whnf
 cases h
 exact hK
 conv=>whnf
 cases h
 exact hK
 conv=>whnf
 cases h
 exact hK
 conv=>whnf
 cases h
 exact hK
 conv=>whnf
 cases h
 exact hK
theorem w44 (q0:Zc Tryz.prog 288 c43) (q1:Zc Tryz.prog 121 c41):Zc Tryz.prog 281 c44:=by
 refine Zg Zq (Ze q0 (Ze q1 Zj)) mixed {loops:=[(0,[.reg 3 (.dat (.int .i64))])]} (fn:=Tryz.f281) Tryz.func281 (by kernel_rfl) (by kernel_rfl) ?_
 rintro ⟨t0,⟨⟩⟩ K ⟨r,h,hK⟩
 change Zc2 t0=some r at h
 unfold Zc2 at h
 conv=>whnf
 refine Zk h (fun l02Axis0 hb0 h=>?_)
 conv=>whnf
 refine ZeV ?_
 refine YI h (fun h=>?_) (fun h=>?_)
 conv=>whnf
 refine Zk h (fun l02Axis1 hb1 h=>?_)
 conv=>whnf
 refine ZeV ?_
 refine YI h (fun h=>?_) (fun h=>?_)
 conv=>whnf
 refine Z7 ?_
 refine Zx h (fun h=>?_) (fun h=>?_)
 conv=>whnf
 refine Yk h ?_
 rintro I2 μ2 ⟨i0,⟨⟩⟩ zs2 h hI2 hR2
 change Zar t0 i0=some zs2 at h
 unfold Zar at h
 conv=>whnf
 refine Zx h (fun h=>?_) (fun h=>?_)
 conv=>whnf
 refine vAt h (fun x0 he3a he3b he3x h=>?_)
 conv=>whnf
 refine Zk h (fun l01In0 hb4 h=>?_)
 conv=>whnf
 refine Z7 ?_
 refine YI h (fun h=>?_) (fun h=>?_)
 conv=>whnf
 cases h
 exact ⟨⟨rfl,rfl⟩,hI2 _ rfl⟩
 conv=>whnf
 cases h
 obtain rfl:=hR2 _ rfl
 exact hK
 conv=>whnf
 cases h
 obtain rfl:=hR2 _ rfl
 exact hK
 conv=>whnf
 cases h
 exact hK
 conv=>whnf
 cases h
 exact hK
 conv=>whnf
 cases h
 exact hK
theorem w72 (q1:Zc Tryz.prog 144 c69) (q0:Zc Tryz.prog 207 c71):Zc Tryz.prog 165 c72:=by
 refine Zg YS (Ze q1 (Ze q0 Zj)) mixed {loops:=[(0,[.reg 4 (.dat (.int .i64)),.cello 1003 3 (.ol 235 (ZrA))])],draws:=[(1,[0,1,0,4,0,0,32,112,0,256,1008,0,2048,0,8192,32767,0,131071],.op 0 (.op 2 (.op 5 (.op 6 (.op 8 (.op 11 (.op 13 (.ld 1 (.ld 3 (.ld 9 (.ld 12 (.ld 14 (.alt 4 (.alt 7 (.alt 10 (.op 15 (.alt 16 (.alt 17 (.done) (.done)) (.done))) (.alt 16 (.alt 10 (.op 15 (.alt 17 (.done) (.done))) (.done)) (.done))) (.alt 16 (.alt 7 (.alt 10 (.op 15 (.alt 17 (.done) (.done))) (.done)) (.done)) (.done))) (.alt 16 (.alt 4 (.alt 7 (.alt 10 (.op 15 (.alt 17 (.done) (.done))) (.done)) (.done)) (.done)) (.done)))))))))))))))]} (fn:=Tryz.f165) Tryz.func165 (by kernel_rfl) (by kernel_rfl) ?_
 rintro ⟨c0,⟨⟩⟩ K ⟨r,h,hK⟩
 change Zet c0=some r at h
 unfold Zet at h
 focus
  conv=>whnf
  refine ⟨by kernel_rfl,?_⟩
  conv=>whnf
  refine ⟨by kernel_rfl,?_⟩
  conv=>whnf
  refine ⟨by kernel_rfl,?_⟩
  conv=>whnf
  refine ⟨by kernel_rfl,?_⟩
  conv=>whnf
  refine ⟨by kernel_rfl,?_⟩
  conv=>whnf
  refine ⟨by kernel_rfl,?_⟩
  conv=>whnf
  obtain ⟨hp0,h⟩:=guardE h
  obtain ⟨l02Ints0,hb1,h⟩:=Option.bind_eq_some_iff.1 h
  refine ⟨?_,?_⟩
  rotate_left
  focus
   conv=>whnf
   refine ⟨by kernel_rfl,?_⟩
   conv=>whnf
   refine ⟨hp0,?_⟩
   conv=>whnf
   refine ⟨_,hb1,?_⟩
   conv=>whnf
   refine ⟨trivial,?_⟩
  rotate_right
  focus
   conv=>whnf
   refine ⟨?_,?_⟩
   rotate_left
   focus
    conv=>whnf
    refine ⟨by kernel_rfl,?_⟩
    conv=>whnf
    refine ⟨hp0,?_⟩
    conv=>whnf
    refine ⟨_,hb1,?_⟩
    conv=>whnf
    refine ⟨trivial,?_⟩
   rotate_right
   focus
    conv=>whnf
    refine ⟨by kernel_rfl,?_⟩
    conv=>whnf
    refine ⟨hp0,?_⟩
    conv=>whnf
    refine ⟨?_,?_⟩
    rotate_left
    focus
     conv=>whnf
     refine ⟨_,hb1,?_⟩
     conv=>whnf
     refine ⟨trivial,?_⟩
    rotate_right
    focus
     conv=>whnf
     refine ⟨_,hb1,?_⟩
     conv=>whnf
     refine ⟨trivial,?_⟩
  all_goals
   conv=>whnf
   refine Yk h ?_
   rintro I2 μ2 ⟨i0,c1,⟨⟩⟩ zs2 h hI2 hR2
   change Js c0 l02Ints0 i0 c1=some zs2 at h
   unfold Js at h
   conv=>whnf
   intro fp3
   conv=>whnf
   refine Zx h (fun h=>?_) (fun h=>?_)
   conv=>whnf
   refine vAt h (fun x0 he4a he4b he4x h=>?_)
   conv=>whnf
   refine Zk h (fun l03OwnTables0 hb5 h=>?_)
   conv=>whnf
   intro fp6
   conv=>whnf
   refine Zk h (fun l03OwnTables1 hb7 h=>?_)
   conv=>whnf
   intro fp8
   conv=>whnf
   intro fp9
   conv=>whnf
   refine QZ h (fun hp10 h=>?_)
   conv=>whnf
   intro fp11
   conv=>whnf
   cases h
   exact ⟨⟨rfl,rfl⟩,hI2 _ rfl⟩
   conv=>whnf
   cases h
   obtain rfl:=hR2 _ rfl
   exact hK
theorem w42 (q0:Zc Tryz.prog 124 c40) (q1:Zc Tryz.prog 121 c41):Zc Tryz.prog 229 c42:=by
 refine Zg Zq (Ze q0 (Ze q1 Zj)) mixed {loops:=[(0,[.reg 5 (.dat (.int .i64)),.reg 6 (.dat (.int .i64))]),(2,[.reg 8 (.dat (.int .i64))])],draws:=[(12,[0,1,0,7,15,31,0,64,255],.op 0 (.op 1 (.op 2 (.op 3 (.op 4 (.op 5 (.op 6 (.op 7 (.op 8 (.done))))))))))]} (fn:=Tryz.f229) Tryz.func229 (by kernel_rfl) (by kernel_rfl) ?_
 rintro ⟨a0,⟨⟩⟩ K ⟨r,h,hK⟩
 change Zdf a0=some r at h
 unfold Zdf at h
 conv=>whnf
 refine Zld h (fun h=>?_) (fun h=>?_)
 conv=>whnf
 cases h
 exact hK
 conv=>whnf
 refine Zx h (fun h=>?_) (fun h=>?_)
 conv=>whnf
 cases h
 exact hK
 conv=>whnf
 refine Yk h ?_
 rintro I0 μ0 ⟨v0,v1,⟨⟩⟩ zs0 h hI0 hR0
 change QH a0 v0 v1=some zs0 at h
 unfold QH at h
 conv=>whnf
 refine Zx h (fun h=>?_) (fun h=>?_)
 conv=>whnf
 refine vAt h (fun x0 he1a he1b he1x h=>?_)
 conv=>whnf
 refine Yk h ?_
 rintro I2 μ2 ⟨v2,⟨⟩⟩ zs2 h hI2 hR2
 change XP a0 v0 v1 x0 v2=some zs2 at h
 unfold XP at h
 conv=>whnf
 refine Zx h (fun h=>?_) (fun h=>?_)
 conv=>whnf
 refine ⟨by kernel_rfl,?_⟩
 conv=>whnf
 refine vAt h (fun x1 he3a he3b he3x h=>?_)
 conv=>whnf
 refine ⟨trivial,?_⟩
 conv=>whnf
 refine Zx h (fun h=>?_) (fun h=>?_)
 conv=>whnf
 cases h
 obtain rfl:=hR2 _ rfl
 obtain rfl:=hR0 _ rfl
 exact hK
 conv=>whnf
 cases h
 exact ⟨⟨rfl,rfl⟩,hI2 _ rfl⟩
 conv=>whnf
 refine Zk h (fun l03Name0 hb4 h=>?_)
 conv=>whnf
 refine ZeV ?_
 refine YI h (fun h=>?_) (fun h=>?_)
 conv=>whnf
 refine Zk h (fun l01In0 hb5 h=>?_)
 conv=>whnf
 refine Z7 ?_
 refine YI h (fun h=>?_) (fun h=>?_)
 conv=>whnf
 refine Zx h (fun h=>?_) (fun h=>?_)
 conv=>whnf
 refine ZeV ?_
 refine Zx h (fun h=>?_) (fun h=>?_)
 conv=>whnf
 refine ZeV ?_
 refine Zx h (fun h=>?_) (fun h=>?_)
 conv=>whnf
 refine ZxA h (fun h=>?_) (fun h=>?_)
 conv=>whnf
 cases h
 obtain rfl:=hR2 _ rfl
 obtain rfl:=hR0 _ rfl
 exact hK
 conv=>whnf
 refine Zx h (fun h=>?_) (fun h=>?_)
 conv=>whnf
 refine Z7 ?_
 refine Zx h (fun h=>?_) (fun h=>?_)
 conv=>whnf
 refine YI h (fun h=>?_) (fun h=>?_)
 conv=>whnf
 cases h
 obtain rfl:=hR2 _ rfl
 exact ⟨⟨rfl,rfl⟩,hI0 _ rfl⟩
 conv=>whnf
 cases h
 obtain rfl:=hR2 _ rfl
 exact ⟨⟨rfl,rfl⟩,hI0 _ rfl⟩
 conv=>whnf
 cases h
 obtain rfl:=hR2 _ rfl
 obtain rfl:=hR0 _ rfl
 exact hK
 conv=>whnf
 refine YI h (fun h=>?_) (fun h=>?_)
 conv=>whnf
 cases h
 obtain rfl:=hR2 _ rfl
 exact ⟨⟨rfl,rfl⟩,hI0 _ rfl⟩
 conv=>whnf
 cases h
 obtain rfl:=hR2 _ rfl
 exact ⟨⟨rfl,rfl⟩,hI0 _ rfl⟩
 conv=>whnf
 cases h
 obtain rfl:=hR2 _ rfl
 obtain rfl:=hR0 _ rfl
 exact hK
 conv=>whnf
 cases h
 obtain rfl:=hR2 _ rfl
 obtain rfl:=hR0 _ rfl
 exact hK
 conv=>whnf
 refine Zx h (fun h=>?_) (fun h=>?_)
 conv=>whnf
 refine Z7 ?_
 refine Zx h (fun h=>?_) (fun h=>?_)
 conv=>whnf
 refine YI h (fun h=>?_) (fun h=>?_)
 conv=>whnf
 cases h
 obtain rfl:=hR2 _ rfl
 exact ⟨⟨rfl,rfl⟩,hI0 _ rfl⟩
 conv=>whnf
 cases h
 obtain rfl:=hR2 _ rfl
 exact ⟨⟨rfl,rfl⟩,hI0 _ rfl⟩
 conv=>whnf
 cases h
 obtain rfl:=hR2 _ rfl
 obtain rfl:=hR0 _ rfl
 exact hK
 conv=>whnf
 refine YI h (fun h=>?_) (fun h=>?_)
 conv=>whnf
 cases h
 obtain rfl:=hR2 _ rfl
 exact ⟨⟨rfl,rfl⟩,hI0 _ rfl⟩
 conv=>whnf
 cases h
 obtain rfl:=hR2 _ rfl
 exact ⟨⟨rfl,rfl⟩,hI0 _ rfl⟩
 conv=>whnf
 cases h
 obtain rfl:=hR2 _ rfl
 obtain rfl:=hR0 _ rfl
 exact hK
 conv=>whnf
 cases h
 obtain rfl:=hR2 _ rfl
 obtain rfl:=hR0 _ rfl
 exact hK
 conv=>whnf
 cases h
 obtain rfl:=hR0 _ rfl
 exact hK
theorem w63:Zc Tryz.prog 174 c63:=by
 refine Zg Zq Zj mixed {loops:=[(0,[.reg 5 (.dat (.int .i64))])]} (fn:=Tryz.f174) Tryz.func174 (by kernel_rfl) (by kernel_rfl) ?_
 rintro ⟨list0,word0,⟨⟩⟩ K ⟨r,h,hK⟩
 change ZdJ list0 word0=some r at h
 unfold ZdJ at h
 conv=>whnf
 refine Yk h ?_
 rintro I0 μ0 ⟨i0,⟨⟩⟩ zs0 h hI0 hR0
 change JN list0 word0 i0=some zs0 at h
 unfold JN at h
 conv=>whnf
 refine Zx h (fun h=>?_) (fun h=>?_)
 conv=>whnf
 refine vAt h (fun x0 he1a he1b he1x h=>?_)
 conv=>whnf
 refine Zx h (fun h=>?_) (fun h=>?_)
 conv=>whnf
 cases h
 obtain rfl:=hR0 _ rfl
 exact hK
 conv=>whnf
 cases h
 exact ⟨⟨rfl,rfl⟩,hI0 _ rfl⟩
 conv=>whnf
 cases h
 obtain rfl:=hR0 _ rfl
 exact hK
theorem w65:Zc Tryz.prog 175 c65:=by
 refine Zg Zq Zj mixed {} (fn:=Tryz.f175) Tryz.func175 (by kernel_rfl) (by kernel_rfl) ?_
 rintro ⟨w0,⟨⟩⟩ K ⟨r,h,hK⟩
 change ZeI w0=some r at h
 unfold ZeI at h
 conv=>whnf
 refine Zx h (fun h=>?_) (fun h=>?_)
 conv=>whnf
 refine vAt h (fun x0 he0a he0b he0x h=>?_)
 conv=>whnf
 cases h
 exact hK
 conv=>whnf
 cases h
 exact hK
theorem w59 (q0:Zc Tryz.prog 78 c54) (q1:Zc Tryz.prog 121 c41):Zc Tryz.prog 66 c59:=by
 refine Zg Zq (Ze q0 (Ze q1 Zj)) mixed {draws:=[(9,[0,1,0,4,15,31,63,127,63,319,1023,2047,4095,8191,16383,8191,40959,8191,139263,499711,1023999,2072575,4169727,8364031,16777215,33554431,67108863],.op 0 (.op 1 (.op 2 (.op 3 (.alt 4 (.op 5 (.op 6 (.op 7 (.op 8 (.op 9 (.alt 10 (.op 11 (.op 12 (.op 13 (.op 14 (.op 15 (.op 16 (.op 17 (.op 18 (.op 19 (.op 20 (.op 21 (.op 22 (.op 23 (.alt 24 (.op 25 (.op 26 (.done))) (.done))))))))))))))) (.done))))))) (.done))))))]} (fn:=Tryz.f66) Tryz.func66 (by kernel_rfl) (by kernel_rfl) ?_
 rintro ⟨a0,a1,⟨⟩⟩ K ⟨r,h,hK⟩
 change Zcs a0 a1=some r at h
 unfold Zcs at h
 conv=>whnf
 refine Zk h (fun l05Places0 hb0 h=>?_)
 conv=>whnf
 refine Zx h (fun h=>?_) (fun h=>?_)
 conv=>whnf
 refine Zx h (fun h=>?_) (fun h=>?_)
 conv=>whnf
 refine Zk h (fun l01In0 hb1 h=>?_)
 conv=>whnf
 refine YI h (fun h=>?_) (fun h=>?_)
 conv=>whnf
 refine Zk h (fun l01In1 hb2 h=>?_)
 conv=>whnf
 cases h
 exact hK
 conv=>whnf
 cases h
 exact hK
 conv=>whnf
 refine Zx h (fun h=>?_) (fun h=>?_)
 conv=>whnf
 refine ⟨by kernel_rfl,?_⟩
 conv=>whnf
 refine Zk h (fun l01In0 hb3 h=>?_)
 conv=>whnf
 refine YI h (fun h=>?_) (fun h=>?_)
 conv=>whnf
 refine Zk h (fun l01In1 hb4 h=>?_)
 conv=>whnf
 refine YI h (fun h=>?_) (fun h=>?_)
 conv=>whnf
 refine vAt h (fun x0 he5a he5b he5x h=>?_)
 conv=>whnf
 refine Zk h (fun l01In2 hb6 h=>?_)
 conv=>whnf
 refine ⟨trivial,?_⟩
 conv=>whnf
 cases h
 exact hK
 conv=>whnf
 refine ⟨trivial,?_⟩
 conv=>whnf
 cases h
 exact hK
 conv=>whnf
 refine ⟨trivial,?_⟩
 conv=>whnf
 cases h
 exact hK
 conv=>whnf
 refine Zx h (fun h=>?_) (fun h=>?_)
 conv=>whnf
 refine Zk h (fun l01In0 hb7 h=>?_)
 conv=>whnf
 cases h
 exact hK
 conv=>whnf
 cases h
 exact hK
 conv=>whnf
 refine Zx h (fun h=>?_) (fun h=>?_)
 conv=>whnf
 refine Zk h (fun l01In0 hb8 h=>?_)
 conv=>whnf
 refine YI h (fun h=>?_) (fun h=>?_)
 conv=>whnf
 refine Zk h (fun l01In1 hb9 h=>?_)
 conv=>whnf
 cases h
 exact hK
 conv=>whnf
 cases h
 exact hK
 conv=>whnf
 refine Zx h (fun h=>?_) (fun h=>?_)
 conv=>whnf
 refine ⟨by kernel_rfl,?_⟩
 conv=>whnf
 refine Zk h (fun l01In0 hb10 h=>?_)
 conv=>whnf
 refine YI h (fun h=>?_) (fun h=>?_)
 conv=>whnf
 refine Zk h (fun l01In1 hb11 h=>?_)
 conv=>whnf
 refine YI h (fun h=>?_) (fun h=>?_)
 conv=>whnf
 refine vAt h (fun x0 he12a he12b he12x h=>?_)
 conv=>whnf
 refine Zk h (fun l01In2 hb13 h=>?_)
 conv=>whnf
 refine ⟨trivial,?_⟩
 conv=>whnf
 cases h
 exact hK
 conv=>whnf
 refine ⟨trivial,?_⟩
 conv=>whnf
 cases h
 exact hK
 conv=>whnf
 refine ⟨trivial,?_⟩
 conv=>whnf
 cases h
 exact hK
 conv=>whnf
 refine Zx h (fun h=>?_) (fun h=>?_)
 conv=>whnf
 refine Zk h (fun l01In0 hb14 h=>?_)
 conv=>whnf
 cases h
 exact hK
 conv=>whnf
 cases h
 exact hK
theorem w67 (q1:Zc Tryz.prog 78 c54) (q3:Zc Tryz.prog 122 c60) (q2:Zc Tryz.prog 123 c61) (q6:Zc Tryz.prog 124 c40) (q0:Zc Tryz.prog 125 c62) (q4:Zc Tryz.prog 126 c64) (q7:Zc Tryz.prog 127 c66) (q5:Zc Tryz.prog 79 c55) (q8:Zc Tryz.prog 114 c56):Zc Tryz.prog 67 c67:=by
 refine Zg Zq (Ze q1 (Ze q3 (Ze q2 (Ze q6 (Ze q0 (Ze q4 (Ze q7 (Ze q5 (Ze q8 Zj))))))))) mixed {draws:=[(5,[0,1,3,7,15,31,63,127,255,511,1023,255,2303,6399,255,16639,63743,129279,260351,524287,1048575,255,2097407,6291711,255,16777471,65011967,132120831,268435455,536870911,1073741823],.op 0 (.op 1 (.op 2 (.op 3 (.op 4 (.op 5 (.op 6 (.op 7 (.op 8 (.op 9 (.op 10 (.op 11 (.op 12 (.op 13 (.op 14 (.op 15 (.op 16 (.op 17 (.op 18 (.op 19 (.op 20 (.op 21 (.op 22 (.op 23 (.op 24 (.op 25 (.op 26 (.op 27 (.alt 28 (.op 29 (.op 30 (.done))) (.done)))))))))))))))))))))))))))))),(11,[0,0,2,7,15,31,63,127,255,255,767,2047,4095,8191,255,16639,65535,131071,262143],.op 0 (.op 1 (.op 2 (.op 3 (.op 4 (.op 5 (.op 6 (.op 7 (.op 8 (.op 9 (.op 10 (.op 11 (.op 12 (.op 13 (.op 14 (.op 15 (.op 16 (.op 17 (.op 18 (.done)))))))))))))))))))),(12,[0,1,0,4,0,16,60,124,255,511],.op 0 (.op 1 (.op 2 (.op 3 (.op 4 (.op 5 (.alt 6 (.op 7 (.alt 8 (.op 9 (.done)) (.done))) (.done))))))))]} (fn:=Tryz.f67) Tryz.func67 (by kernel_rfl) (by kernel_rfl) ?_
 rintro ⟨a0,a1,⟨⟩⟩ K ⟨r,h,hK⟩
 change Zca a0 a1=some r at h
 unfold Zca at h
 conv=>whnf
 refine Zk h (fun l05Places0 hb0 h=>?_)
 conv=>whnf
 refine Zx h (fun h=>?_) (fun h=>?_)
 conv=>whnf
 refine vAt h (fun x0 he1a he1b he1x h=>?_)
 conv=>whnf
 refine ⟨by kernel_rfl,?_⟩
 conv=>whnf
 refine ⟨he1a,he1b,Zo he1x ?_⟩
 conv=>whnf
 refine ⟨by kernel_rfl,?_⟩
 conv=>whnf
 refine Zx h (fun h=>?_) (fun h=>?_)
 conv=>whnf
 refine YI h (fun h=>?_) (fun h=>?_)
 conv=>whnf
 refine vAt h (fun x1 he2a he2b he2x h=>?_)
 conv=>whnf
 refine vAt h (fun x2 he3a he3b he3x h=>?_)
 conv=>whnf
 refine vAt h (fun x3 he4a he4b he4x h=>?_)
 conv=>whnf
 refine Zk h (fun l08Alike0 hb5 h=>?_)
 conv=>whnf
 refine ⟨trivial,?_⟩
 conv=>whnf
 cases h
 exact hK
 conv=>whnf
 refine ⟨trivial,?_⟩
 conv=>whnf
 cases h
 exact hK
 conv=>whnf
 refine ⟨trivial,?_⟩
 conv=>whnf
 cases h
 exact hK
 conv=>whnf
 refine Zx h (fun h=>?_) (fun h=>?_)
 conv=>whnf
 refine vAt h (fun x0 he6a he6b he6x h=>?_)
 conv=>whnf
 refine ⟨by kernel_rfl,?_⟩
 conv=>whnf
 refine ⟨he6a,he6b,Zo he6x ?_⟩
 conv=>whnf
 refine Z7 ?_
 refine YI h (fun h=>?_) (fun h=>?_)
 conv=>whnf
 cases h
 exact hK
 conv=>whnf
 refine vAt h (fun x1 he7a he7b he7x h=>?_)
 conv=>whnf
 refine Zk h (fun l08Buffer0 hb8 h=>?_)
 conv=>whnf
 refine YI h (fun h=>?_) (fun h=>?_)
 conv=>whnf
 refine Zk h (fun l03Name0 hb9 h=>?_)
 conv=>whnf
 refine YI h (fun h=>?_) (fun h=>?_)
 conv=>whnf
 refine Zk h (fun InstanceNamed0 hb10 h=>?_)
 conv=>whnf
 refine Zx h (fun h=>?_) (fun h=>?_)
 conv=>whnf
 refine Zk h (fun NetNamed0 hb11 h=>?_)
 conv=>whnf
 cases h
 exact hK
 conv=>whnf
 cases h
 exact hK
 conv=>whnf
 cases h
 exact hK
 conv=>whnf
 cases h
 exact hK
 conv=>whnf
 refine Zx h (fun h=>?_) (fun h=>?_)
 conv=>whnf
 refine Zk h (fun l08Last0 hb12 h=>?_)
 conv=>whnf
 cases h
 exact hK
 conv=>whnf
 refine Zx h (fun h=>?_) (fun h=>?_)
 conv=>whnf
 refine ⟨by kernel_rfl,?_⟩
 conv=>whnf
 refine vAt h (fun x0 he13a he13b he13x h=>?_)
 conv=>whnf
 refine ⟨by kernel_rfl,?_⟩
 conv=>whnf
 refine ⟨he13a,he13b,Zo he13x ?_⟩
 conv=>whnf
 refine Z7 ?_
 refine YI h (fun h=>?_) (fun h=>?_)
 conv=>whnf
 refine ⟨trivial,?_⟩
 conv=>whnf
 cases h
 exact hK
 conv=>whnf
 refine ⟨he13a,he13b,Zo he13x ?_⟩
 conv=>whnf
 refine ⟨by kernel_rfl,?_⟩
 conv=>whnf
 refine ⟨he13a,he13b,Zo he13x ?_⟩
 conv=>whnf
 refine ⟨trivial,?_⟩
 conv=>whnf
 cases h
 exact hK
 conv=>whnf
 refine ⟨by kernel_rfl,?_⟩
 conv=>whnf
 refine Zk h (fun l05Sinks0 hb14 h=>?_)
 conv=>whnf
 refine Zk h (fun IsWire0 hb15 h=>?_)
 conv=>whnf
 refine ⟨trivial,?_⟩
 conv=>whnf
 cases h
 exact hK
end Go.Proofs.YtehkanadahncgaaGreatDoor
