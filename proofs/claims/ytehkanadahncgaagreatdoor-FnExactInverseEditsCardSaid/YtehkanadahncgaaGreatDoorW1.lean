/-
  The functions keep their contracts, if what they call does. Printed by program.
-/
import Derived.Test.YtehkanadahncgaaGreatDoorM
import Derived.KernelRfl
namespace Go.Proofs.YtehkanadahncgaaGreatDoor
open Go Go.Sx
set_option maxRecDepth 100000
set_option maxHeartbeats 3200000
set_option linter.unusedVariables false
set_option linter.unusedSimpArgs false
theorem Zzs:Zc Tryz.prog 105 ZvR:=by
 refine Zg YO Zj mixed {draws:=[(2,[0,1,3,7,15,0,32,0,255,511,1023],.op 0 (.op 1 (.op 2 (.op 3 (.op 4 (.op 5 (.op 6 (.op 7 (.op 8 (.op 9 (.alt 10 (.done) (.done)))))))))))),(3,[0,1,3,7,15,0,32,127,255,511,0,1024,0,8191,16383],.op 0 (.op 1 (.op 2 (.op 3 (.op 4 (.op 5 (.op 6 (.op 7 (.op 8 (.op 9 (.op 10 (.op 11 (.op 12 (.op 13 (.alt 14 (.done) (.done))))))))))))))))]} (fn:=Tryz.f105) Tryz.func105 (by kernel_rfl) (by kernel_rfl) ?_
 rintro ⟨b0,key0,net0,⟨⟩⟩ K ⟨r,h,hK⟩
 change Qk b0 key0 net0=some r at h
 unfold Qk at h
 conv=>whnf
 intro fp0
 conv=>whnf
 intro fp1
 conv=>whnf
 intro fp2
 conv=>whnf
 refine Zz h (fun h=>?_) (fun h=>?_)
 conv=>whnf
 refine ⟨by kernel_rfl,?_⟩
 conv=>whnf
 refine vAt h (fun x0 he3a he3b he3x h=>?_)
 conv=>whnf
 refine ⟨by kernel_rfl,?_⟩
 conv=>whnf
 refine ⟨by decide,?_⟩
 conv=>whnf
 refine ⟨he3a,he3b,Zp he3x ?_⟩
 conv=>whnf
 refine ⟨trivial,?_⟩
 conv=>whnf
 cases h
 exact hK
 conv=>whnf
 refine ⟨by kernel_rfl,?_⟩
 conv=>whnf
 refine vAt h (fun x0 he4a he4b he4x h=>?_)
 conv=>whnf
 refine ⟨he4a,he4b,Zp he4x ?_⟩
 conv=>whnf
 intro fp5
 conv=>whnf
 refine vAt h (fun x1 he6a he6b he6x h=>?_)
 conv=>whnf
 refine ⟨by kernel_rfl,?_⟩
 conv=>whnf
 refine ⟨by decide,?_⟩
 conv=>whnf
 refine ⟨he6a,he6b,Zp he6x ?_⟩
 conv=>whnf
 refine ⟨trivial,?_⟩
 conv=>whnf
 cases h
 exact hK
theorem Zy3:Zc Tryz.prog 247 c117:=by
 refine Zg Zr Zj mixed {} (fn:=Tryz.f247) Tryz.func247 (by kernel_rfl) (by kernel_rfl) ?_
 rintro ⟨o0,a0,⟨⟩⟩ K ⟨r,h,hK⟩
 change Xb o0 a0=some r at h
 unfold Xb at h
 conv=>whnf
 refine Zz h (fun h=>?_) (fun h=>?_)
 conv=>whnf
 refine Zz h (fun h=>?_) (fun h=>?_)
 conv=>whnf
 cases h
 exact hK
 conv=>whnf
 cases h
 exact hK
 conv=>whnf
 cases h
 exact hK
theorem ZA3:Zc Tryz.prog 266 ZxE:=by
 refine Zg Zr Zj mixed {} (fn:=Tryz.f266) Tryz.func266 (by kernel_rfl) (by kernel_rfl) ?_
 rintro ⟨a0,a1,⟨⟩⟩ K ⟨r,h,hK⟩
 change J7 a0 a1=some r at h
 unfold J7 at h
 conv=>whnf
 cases h
 exact hK
theorem ZzQ (q4:Zc Tryz.prog 261 c97) (q3:Zc Tryz.prog 262 ZyE) (q2:Zc Tryz.prog 263 ZyH) (q0:Zc Tryz.prog 264 ZxF) (q1:Zc Tryz.prog 248 Zwf) (q5:Zc Tryz.prog 137 c90):Zc Tryz.prog 245 c116:=by
 refine Zg Zr (Ze q4 (Ze q3 (Ze q2 (Ze q0 (Ze q1 (Ze q5 Zj)))))) mixed {draws:=[(2,[0,1,3,7,15,31,63,127,255,511,1023,2047,4095,8191,16383,32767,65535,32767,163839,524287,1048575,2097151,4194303,8388607,16777215,33554431,67108863,134217727,134217727,402653183,1073741823,2147483647,4294967295,8589934591,17179869183,8589934591,42949672959,137438953471,274877906943,549755813887],.op 0 (.op 1 (.op 2 (.op 3 (.op 4 (.op 5 (.op 6 (.op 7 (.op 8 (.op 9 (.op 10 (.op 11 (.alt 12 (.op 13 (.op 14 (.op 15 (.op 16 (.op 17 (.alt 18 (.op 19 (.op 20 (.op 21 (.op 22 (.op 23 (.op 24 (.op 25 (.op 26 (.op 27 (.op 28 (.op 29 (.alt 30 (.op 31 (.op 32 (.op 33 (.op 34 (.op 35 (.op 36 (.op 37 (.op 38 (.op 39 (.done)))))))))) (.done))))))))))))) (.done))))))) (.done)))))))))))))),(3,[0,1,3,7,15,31,63,127,255,511,1023,2047,4095,2047,10239,32767,65535,131071,262143,262143,786431,2097151,4194303,8388607],.op 0 (.op 1 (.alt 2 (.op 3 (.op 4 (.op 5 (.op 6 (.alt 7 (.op 8 (.op 9 (.op 10 (.op 11 (.op 12 (.op 13 (.alt 14 (.op 15 (.op 16 (.op 17 (.op 18 (.op 19 (.op 20 (.alt 21 (.op 22 (.op 23 (.done))) (.done)))))))) (.done)))))))) (.done)))))) (.done))))]} (fn:=Tryz.f245) Tryz.func245 (by kernel_rfl) (by kernel_rfl) ?_
 rintro ⟨a0,a1,⟨⟩⟩ K ⟨r,h,hK⟩
 change ZaD a0 a1=some r at h
 unfold ZaD at h
 conv=>whnf
 refine Zl h (fun isCheck0 hb0 h=>?_)
 conv=>whnf
 refine YJ h (fun h=>?_) (fun h=>?_)
 conv=>whnf
 refine ⟨by kernel_rfl,?_⟩
 conv=>whnf
 refine Zz h (fun h=>?_) (fun h=>?_)
 conv=>whnf
 refine Zz h (fun h=>?_) (fun h=>?_)
 conv=>whnf
 refine Zl h (fun areTables0 hb1 h=>?_)
 conv=>whnf
 refine YJ h (fun h=>?_) (fun h=>?_)
 conv=>whnf
 refine Zl h (fun clock0 hb2 h=>?_)
 conv=>whnf
 refine Zz h (fun h=>?_) (fun h=>?_)
 conv=>whnf
 refine Zz h (fun h=>?_) (fun h=>?_)
 conv=>whnf
 refine Zl h (fun isInput0 hb3 h=>?_)
 conv=>whnf
 refine YJ h (fun h=>?_) (fun h=>?_)
 conv=>whnf
 refine ⟨trivial,?_⟩
 conv=>whnf
 cases h
 exact hK
 conv=>whnf
 refine ⟨trivial,?_⟩
 conv=>whnf
 cases h
 exact hK
 conv=>whnf
 refine ⟨trivial,?_⟩
 conv=>whnf
 cases h
 exact hK
 conv=>whnf
 refine ⟨trivial,?_⟩
 conv=>whnf
 cases h
 exact hK
 conv=>whnf
 refine ⟨trivial,?_⟩
 conv=>whnf
 cases h
 exact hK
 conv=>whnf
 refine ⟨trivial,?_⟩
 conv=>whnf
 cases h
 exact hK
 conv=>whnf
 refine ⟨trivial,?_⟩
 conv=>whnf
 cases h
 exact hK
 conv=>whnf
 refine ⟨by kernel_rfl,?_⟩
 conv=>whnf
 refine Zl h (fun areTables0 hb4 h=>?_)
 conv=>whnf
 refine ZeX ?_
 refine YJ h (fun h=>?_) (fun h=>?_)
 conv=>whnf
 refine Zl h (fun areTables1 hb5 h=>?_)
 conv=>whnf
 refine ZeX ?_
 refine YJ h (fun h=>?_) (fun h=>?_)
 conv=>whnf
 refine Zl h (fun output0 hb6 h=>?_)
 conv=>whnf
 refine ZeX ?_
 refine Zz h (fun h=>?_) (fun h=>?_)
 conv=>whnf
 refine Zl h (fun isInput0 hb7 h=>?_)
 conv=>whnf
 refine ⟨trivial,?_⟩
 conv=>whnf
 refine Yb ?_
 refine YJ h (fun h=>?_) (fun h=>?_)
 conv=>whnf
 refine Zz h (fun h=>?_) (fun h=>?_)
 conv=>whnf
 refine vAt h (fun x0 he8a he8b he8x h=>?_)
 conv=>whnf
 refine Yb ?_
 refine YJ h (fun h=>?_) (fun h=>?_)
 conv=>whnf
 cases h
 exact hK
 conv=>whnf
 refine Zl h (fun within0 hb9 h=>?_)
 conv=>whnf
 cases h
 exact hK
 conv=>whnf
 refine Zz h (fun h=>?_) (fun h=>?_)
 conv=>whnf
 refine Zz h (fun h=>?_) (fun h=>?_)
 conv=>whnf
 refine vAt h (fun x0 he10a he10b he10x h=>?_)
 conv=>whnf
 refine YJ h (fun h=>?_) (fun h=>?_)
 conv=>whnf
 cases h
 exact hK
 conv=>whnf
 cases h
 exact hK
 conv=>whnf
 cases h
 exact hK
 conv=>whnf
 refine Zz h (fun h=>?_) (fun h=>?_)
 conv=>whnf
 refine vAt h (fun x0 he11a he11b he11x h=>?_)
 conv=>whnf
 refine YJ h (fun h=>?_) (fun h=>?_)
 conv=>whnf
 cases h
 exact hK
 conv=>whnf
 cases h
 exact hK
 conv=>whnf
 cases h
 exact hK
 conv=>whnf
 cases h
 exact hK
 conv=>whnf
 refine ⟨trivial,?_⟩
 conv=>whnf
 cases h
 exact hK
 conv=>whnf
 refine ⟨trivial,?_⟩
 conv=>whnf
 cases h
 exact hK
 conv=>whnf
 refine ⟨trivial,?_⟩
 conv=>whnf
 cases h
 exact hK
theorem Zzr (q0:Zc Tryz.prog 199 Zxa) (q2:Zc Tryz.prog 200 Zxv) (q1:Zc Tryz.prog 201 Zw8) (q3:Zc Tryz.prog 159 c145):Zc Tryz.prog 150 c152:=by
 refine Zg YO (Ze q0 (Ze q2 (Ze q1 (Ze q3 Zj)))) mixed {loops:=[(0,[.reg 19 (.dat (.int .i64)),.splt 1300 124 (ZaN)])],draws:=[(1,[0,1,3,0,8,31,0,64,255,511,0,2047],.op 0 (.op 1 (.op 3 (.op 4 (.op 6 (.op 7 (.alt 2 (.alt 5 (.alt 8 (.op 9 (.alt 10 (.alt 11 (.done) (.done)) (.done))) (.alt 10 (.alt 8 (.op 9 (.alt 11 (.done) (.done))) (.done)) (.done))) (.alt 10 (.alt 5 (.alt 8 (.op 9 (.alt 11 (.done) (.done))) (.done)) (.done)) (.done))) (.alt 10 (.alt 2 (.alt 5 (.alt 8 (.op 9 (.alt 11 (.done) (.done))) (.done)) (.done)) (.done)) (.done))))))))),(5,[0,1,0,0,8,24,63,127,255],.op 0 (.op 1 (.op 2 (.op 3 (.op 4 (.alt 5 (.op 6 (.op 7 (.alt 8 (.done) (.done)))) (.done)))))))]} (fn:=Tryz.f150) Tryz.func150 (by kernel_rfl) (by kernel_rfl) ?_
 rintro ⟨d0,⟨⟩⟩ K ⟨r,h,hK⟩
 change Ju d0=some r at h
 unfold Ju at h
 focus
  conv=>whnf
  refine ⟨by kernel_rfl,?_⟩
  conv=>whnf
  obtain ⟨Instance0,hb0,h⟩:=Option.bind_eq_some_iff.1 h
  obtain ⟨string0,hb1,h⟩:=Option.bind_eq_some_iff.1 h
  obtain ⟨Port0,hb2,h⟩:=Option.bind_eq_some_iff.1 h
  refine ⟨?_,?_⟩
  rotate_left
  focus
   conv=>whnf
   refine ⟨_,hb0,?_⟩
   conv=>whnf
   refine ⟨_,hb1,?_⟩
   conv=>whnf
   refine ⟨_,hb2,?_⟩
   conv=>whnf
   refine ⟨trivial,?_⟩
  rotate_right
  focus
   conv=>whnf
   refine ⟨_,hb0,?_⟩
   conv=>whnf
   refine ⟨?_,?_⟩
   rotate_left
   focus
    conv=>whnf
    refine ⟨_,hb1,?_⟩
    conv=>whnf
    refine ⟨_,hb2,?_⟩
    conv=>whnf
    refine ⟨trivial,?_⟩
   rotate_right
   focus
    conv=>whnf
    refine ⟨_,hb1,?_⟩
    conv=>whnf
    refine ⟨?_,?_⟩
    rotate_left
    focus
     conv=>whnf
     refine ⟨_,hb2,?_⟩
     conv=>whnf
     refine ⟨trivial,?_⟩
    rotate_right
    focus
     conv=>whnf
     refine ⟨_,hb2,?_⟩
     conv=>whnf
     refine ⟨trivial,?_⟩
  all_goals
   conv=>whnf
   refine Yj h ?_
   rintro I3 μ3 ⟨v0,l0,⟨⟩⟩ zs3 h hI3 hR3
   change QH Instance0 string0 Port0 v0 l0=some zs3 at h
   unfold QH at h
   conv=>whnf
   intro fp4
   conv=>whnf
   refine Zz h (fun h=>?_) (fun h=>?_)
   conv=>whnf
   refine vAt h (fun x0 he5a he5b he5x h=>?_)
   conv=>whnf
   refine Qt h (fun hp6 h=>?_)
   conv=>whnf
   refine ⟨he5a,he5b,Zp he5x ?_⟩
   conv=>whnf
   refine ⟨by kernel_rfl,?_⟩
   conv=>whnf
   refine Zl h (fun int64_0 hb7 h=>?_)
   conv=>whnf
   refine ⟨he5a,he5b,Zp he5x ?_⟩
   conv=>whnf
   refine Qt h (fun hp8 h=>?_)
   conv=>whnf
   refine vAt h (fun x1 he9a he9b he9x h=>?_)
   conv=>whnf
   refine ⟨trivial,?_⟩
   conv=>whnf
   cases h
   exact ⟨⟨rfl,rfl⟩,hI3 _ rfl⟩
   conv=>whnf
   refine Qt h (fun hp10 h=>?_)
   conv=>whnf
   cases h
   obtain rfl:=hR3 _ rfl
   exact hK
theorem ZCa (q0:Zc Tryz.prog 215 Zxt):Zc Tryz.prog 183 c167:=by
 refine Zg Zr (Ze q0 Zj) mixed {} (fn:=Tryz.f183) Tryz.func183 (by kernel_rfl) (by kernel_rfl) ?_
 rintro ⟨d0,name0,⟨⟩⟩ K ⟨r,h,hK⟩
 change VB d0 name0=some r at h
 unfold VB at h
 conv=>whnf
 refine Zl h (fun c1_0 hb0 h=>?_)
 conv=>whnf
 cases h
 exact hK
theorem Zzq:Zc Tryz.prog 216 ZyI:=by
 refine Zg Zr Zj mixed {} (fn:=Tryz.f216) Tryz.func216 (by kernel_rfl) (by kernel_rfl) ?_
 rintro ⟨x0,a0,⟨⟩⟩ K ⟨r,h,hK⟩
 change Vs x0 a0=some r at h
 unfold Vs at h
 conv=>whnf
 cases h
 exact hK
theorem ZAR (q1:Zc Tryz.prog 69 c139) (q0:Zc Tryz.prog 70 Zra) (q2:Zc Tryz.prog 71 Zwq):Zc Tryz.prog 32 c143:=by
 refine Zg Zr (Ze q1 (Ze q0 (Ze q2 Zj))) mixed {loops:=[(0,[.reg 32 (.dat (.int .i64)),.ent 1 (nat_lit 2) (.flat Zsa.ety)]),(2,[.reg 50 (.dat (.int .i64))])],draws:=[(13,[0,0,0,6,14,31,63],.op 0 (.op 1 (.op 2 (.op 3 (.op 4 (.alt 5 (.op 6 (.done)) (.done)))))))]} (fn:=Tryz.f32) Tryz.func32 (by kernel_rfl) (by kernel_rfl) ?_
 rintro ⟨b0,⟨⟩⟩ K ⟨r,h,hK⟩
 change Zc4 b0=some r at h
 unfold Zc4 at h
 conv=>whnf
 refine Zl h (fun IsDesign0 hb0 h=>?_)
 conv=>whnf
 refine ZeX ?_
 refine YJ h (fun h=>?_) (fun h=>?_)
 conv=>whnf
 refine Yb ?_
 refine Zz h (fun h=>?_) (fun h=>?_)
 conv=>whnf
 refine Qt h (fun hp1 h=>?_)
 conv=>whnf
 refine Qt h (fun hp2 h=>?_)
 conv=>whnf
 refine Qt h (fun hp3 h=>?_)
 conv=>whnf
 refine Qt h (fun hp4 h=>?_)
 conv=>whnf
 refine Zl h (fun places0 hb5 h=>?_)
 conv=>whnf
 refine Yj h ?_
 rintro I6 μ6 ⟨v0,l0,⟨⟩⟩ zs6 h hI6 hR6
 change VD b0 places0 v0 l0=some zs6 at h
 unfold VD at h
 conv=>whnf
 refine Zz h (fun h=>?_) (fun h=>?_)
 conv=>whnf
 refine vAt h (fun x0 he7a he7b he7x h=>?_)
 conv=>whnf
 refine ⟨by kernel_rfl,?_⟩
 conv=>whnf
 refine ⟨he7a,he7b,Zp he7x ?_⟩
 conv=>whnf
 refine Yb ?_
 refine YJ h (fun h=>?_) (fun h=>?_)
 conv=>whnf
 cases h
 exact ⟨⟨rfl,rfl⟩,hI6 _ rfl⟩
 conv=>whnf
 refine vAt h (fun x1 he8a he8b he8x h=>?_)
 conv=>whnf
 refine ⟨by kernel_rfl,?_⟩
 conv=>whnf
 refine ⟨he8a,he8b,Zp he8x ?_⟩
 conv=>whnf
 refine ⟨he8a,he8b,Zp he8x ?_⟩
 conv=>whnf
 refine ⟨by kernel_rfl,?_⟩
 conv=>whnf
 refine ⟨by decide,?_⟩
 conv=>whnf
 refine ⟨he8a,he8b,Zp he8x ?_⟩
 conv=>whnf
 cases h
 exact ⟨⟨rfl,rfl⟩,hI6 _ rfl⟩
 conv=>whnf
 refine Yj h ?_
 rintro I9 μ9 ⟨v1,⟨⟩⟩ zs9 h hI9 hR9
 change Zah b0 l0 v1=some zs9 at h
 unfold Zah at h
 conv=>whnf
 refine Zz h (fun h=>?_) (fun h=>?_)
 conv=>whnf
 refine vAt h (fun x0 he10a he10b he10x h=>?_)
 conv=>whnf
 refine ⟨by kernel_rfl,?_⟩
 conv=>whnf
 refine vAt h (fun x1 he11a he11b he11x h=>?_)
 conv=>whnf
 refine ⟨by kernel_rfl,?_⟩
 conv=>whnf
 refine ⟨he11a,he11b,Zp he11x ?_⟩
 conv=>whnf
 refine Zl h (fun IsWire0 hb12 h=>?_)
 conv=>whnf
 refine ⟨trivial,?_⟩
 conv=>whnf
 refine Yb ?_
 refine YJ h (fun h=>?_) (fun h=>?_)
 conv=>whnf
 cases h
 exact ⟨⟨rfl,rfl⟩,hI9 _ rfl⟩
 conv=>whnf
 cases h
 obtain rfl:=hR9 _ rfl
 obtain rfl:=hR6 _ rfl
 exact hK
 conv=>whnf
 cases h
 obtain rfl:=hR9 _ rfl
 obtain rfl:=hR6 _ rfl
 exact hK
 conv=>whnf
 cases h
 exact hK
 conv=>whnf
 cases h
 exact hK
theorem ZBL (q1:Zc Tryz.prog 287 ZxD) (q0:Zc Tryz.prog 139 ZvC):Zc Tryz.prog 277 c105:=by
 refine Zg Zr (Ze q1 (Ze q0 Zj)) mixed {} (fn:=Tryz.f277) Tryz.func277 (by kernel_rfl) (by kernel_rfl) ?_
 rintro ⟨t0,⟨⟩⟩ K ⟨r,h,hK⟩
 change Zc1 t0=some r at h
 unfold Zc1 at h
 conv=>whnf
 refine Zl h (fun isAxis0 hb0 h=>?_)
 conv=>whnf
 refine YJ h (fun h=>?_) (fun h=>?_)
 conv=>whnf
 refine Zl h (fun isAxis1 hb1 h=>?_)
 conv=>whnf
 refine YJ h (fun h=>?_) (fun h=>?_)
 conv=>whnf
 refine Zz h (fun h=>?_) (fun h=>?_)
 conv=>whnf
 refine Zl h (fun areWithin0 hb2 h=>?_)
 conv=>whnf
 cases h
 exact hK
 conv=>whnf
 cases h
 exact hK
 conv=>whnf
 cases h
 exact hK
 conv=>whnf
 cases h
 exact hK
theorem w95 (q1:Zc Tryz.prog 182 c91) (q0:Zc Tryz.prog 221 c94):Zc Tryz.prog 187 c95:=by
 refine Zg Zr (Ze q1 (Ze q0 Zj)) mixed {loops:=[(0,[.reg 7 (.dat (.int .i64))])]} (fn:=Tryz.f187) Tryz.func187 (by kernel_rfl) (by kernel_rfl) ?_
 rintro ⟨list0,⟨⟩⟩ K ⟨r,h,hK⟩
 change Vn list0=some r at h
 unfold Vn at h
 conv=>whnf
 refine Yj h ?_
 rintro I0 μ0 ⟨v0,⟨⟩⟩ zs0 h hI0 hR0
 change Jy list0 v0=some zs0 at h
 unfold Jy at h
 conv=>whnf
 refine Zz h (fun h=>?_) (fun h=>?_)
 conv=>whnf
 refine vAt h (fun x0 he1a he1b he1x h=>?_)
 conv=>whnf
 refine Zl h (fun isName0 hb2 h=>?_)
 conv=>whnf
 refine ZeX ?_
 refine YJ h (fun h=>?_) (fun h=>?_)
 conv=>whnf
 refine ⟨by decide,?_⟩
 conv=>whnf
 refine Qt h (fun hp3 h=>?_)
 conv=>whnf
 refine Qt h (fun hp4 h=>?_)
 conv=>whnf
 refine Zl h (fun string0 hb5 h=>?_)
 conv=>whnf
 refine YJ h (fun h=>?_) (fun h=>?_)
 conv=>whnf
 cases h
 obtain rfl:=hR0 _ rfl
 exact hK
 conv=>whnf
 cases h
 exact ⟨⟨rfl,rfl⟩,hI0 _ rfl⟩
 conv=>whnf
 cases h
 obtain rfl:=hR0 _ rfl
 exact hK
 conv=>whnf
 cases h
 obtain rfl:=hR0 _ rfl
 exact hK
theorem ZBl (q0:Zc Tryz.prog 136 c98) (q3:Zc Tryz.prog 137 c90) (q2:Zc Tryz.prog 139 ZvC) (q1:Zc Tryz.prog 290 ZxU):Zc Tryz.prog 287 ZxD:=by
 refine Zg Zr (Ze q0 (Ze q3 (Ze q2 (Ze q1 Zj)))) mixed {} (fn:=Tryz.f287) Tryz.func287 (by kernel_rfl) (by kernel_rfl) ?_
 rintro ⟨list0,⟨⟩⟩ K ⟨r,h,hK⟩
 change ZcU list0=some r at h
 unfold ZcU at h
 conv=>whnf
 refine Zl h (fun int64_0 hb0 h=>?_)
 conv=>whnf
 refine Zl h (fun within0 hb1 h=>?_)
 conv=>whnf
 refine YJ h (fun h=>?_) (fun h=>?_)
 conv=>whnf
 refine Zl h (fun areWithin0 hb2 h=>?_)
 conv=>whnf
 refine YJ h (fun h=>?_) (fun h=>?_)
 conv=>whnf
 refine Zl h (fun isIncreasing0 hb3 h=>?_)
 conv=>whnf
 cases h
 exact hK
 conv=>whnf
 cases h
 exact hK
 conv=>whnf
 cases h
 exact hK
theorem Zzt:Zc Tryz.prog 290 ZxU:=by
 refine Zg Zr Zj mixed {loops:=[(0,[.reg 3 (.dat (.int .i64))])],draws:=[(4,[0,0,2,7,15,0,0,96,224,511],.op 0 (.op 1 (.op 2 (.op 3 (.op 4 (.op 5 (.op 6 (.op 7 (.op 8 (.op 9 (.done)))))))))))]} (fn:=Tryz.f290) Tryz.func290 (by kernel_rfl) (by kernel_rfl) ?_
 rintro ⟨list0,⟨⟩⟩ K ⟨r,h,hK⟩
 change Js list0=some r at h
 unfold Js at h
 conv=>whnf
 refine Yj h ?_
 rintro I0 μ0 ⟨i0,⟨⟩⟩ zs0 h hI0 hR0
 change Y4 list0 i0=some zs0 at h
 unfold Y4 at h
 conv=>whnf
 refine Zz h (fun h=>?_) (fun h=>?_)
 conv=>whnf
 refine ⟨by kernel_rfl,?_⟩
 conv=>whnf
 refine vAt h (fun x0 he1a he1b he1x h=>?_)
 conv=>whnf
 refine vAt h (fun x1 he2a he2b he2x h=>?_)
 conv=>whnf
 refine ⟨trivial,?_⟩
 conv=>whnf
 refine Zz h (fun h=>?_) (fun h=>?_)
 conv=>whnf
 cases h
 obtain rfl:=hR0 _ rfl
 exact hK
 conv=>whnf
 cases h
 exact ⟨⟨rfl,rfl⟩,hI0 _ rfl⟩
 conv=>whnf
 cases h
 obtain rfl:=hR0 _ rfl
 exact hK
theorem w91 (q2:Zc Tryz.prog 137 c90) (q1:Zc Tryz.prog 213 Zig) (q0:Zc Tryz.prog 214 Zfg):Zc Tryz.prog 182 c91:=by
 refine Zg Zr (Ze q2 (Ze q1 (Ze q0 Zj))) mixed {} (fn:=Tryz.f182) Tryz.func182 (by kernel_rfl) (by kernel_rfl) ?_
 rintro ⟨s0,⟨⟩⟩ K ⟨r,h,hK⟩
 change ZbR s0=some r at h
 unfold ZbR at h
 conv=>whnf
 refine Zl h (fun within0 hb0 h=>?_)
 conv=>whnf
 refine YJ h (fun h=>?_) (fun h=>?_)
 conv=>whnf
 refine Qt h (fun hp1 h=>?_)
 conv=>whnf
 refine ⟨by decide,?_⟩
 conv=>whnf
 refine ⟨by kernel_rfl,?_⟩
 conv=>whnf
 refine Zz h (fun h=>?_) (fun h=>?_)
 conv=>whnf
 refine vAt h (fun x0 he2a he2b he2x h=>?_)
 conv=>whnf
 cases h
 exact hK
 conv=>whnf
 cases h
 exact hK
 conv=>whnf
 cases h
 exact hK
theorem Zzp:Zc Tryz.prog 178 c159:=by
 refine Zg Zr Zj mixed {} (fn:=Tryz.f178) Tryz.func178 (by kernel_rfl) (by kernel_rfl) ?_
 rintro ⟨list0,⟨⟩⟩ K ⟨r,h,hK⟩
 change Q5 list0=some r at h
 unfold Q5 at h
 conv=>whnf
 cases h
 exact hK
theorem Zzf (q0:Zc Tryz.prog 210 c157):Zc Tryz.prog 176 Zyu:=by
 refine Zg Zr (Ze q0 Zj) mixed {} (fn:=Tryz.f176) Tryz.func176 (by kernel_rfl) (by kernel_rfl) ?_
 rintro ⟨a0,b0,⟨⟩⟩ K ⟨r,h,hK⟩
 change Za3 a0 b0=some r at h
 unfold Za3 at h
 conv=>whnf
 refine Zz h (fun h=>?_) (fun h=>?_)
 conv=>whnf
 refine Zz h (fun h=>?_) (fun h=>?_)
 conv=>whnf
 refine Zz h (fun h=>?_) (fun h=>?_)
 conv=>whnf
 refine Zz h (fun h=>?_) (fun h=>?_)
 conv=>whnf
 refine Zz h (fun h=>?_) (fun h=>?_)
 conv=>whnf
 refine Zz h (fun h=>?_) (fun h=>?_)
 conv=>whnf
 refine Zl h (fun sameWire0 hb0 h=>?_)
 conv=>whnf
 cases h
 exact hK
 conv=>whnf
 cases h
 exact hK
 conv=>whnf
 cases h
 exact hK
 conv=>whnf
 cases h
 exact hK
 conv=>whnf
 cases h
 exact hK
 conv=>whnf
 cases h
 exact hK
 conv=>whnf
 cases h
 exact hK
theorem ZAg (q0:Zc Tryz.prog 252 c193):Zc Tryz.prog 228 c194:=by
 refine Zg Zr (Ze q0 Zj) mixed {} (fn:=Tryz.f228) Tryz.func228 (by kernel_rfl) (by kernel_rfl) ?_
 rintro ⟨a0,b0,⟨⟩⟩ K ⟨r,h,hK⟩
 change Zeo a0 b0=some r at h
 unfold Zeo at h
 conv=>whnf
 refine Yb ?_
 refine Zz h (fun h=>?_) (fun h=>?_)
 conv=>whnf
 refine Yb ?_
 refine Zz h (fun h=>?_) (fun h=>?_)
 conv=>whnf
 refine Yb ?_
 refine Zz h (fun h=>?_) (fun h=>?_)
 conv=>whnf
 refine Yb ?_
 refine Zz h (fun h=>?_) (fun h=>?_)
 conv=>whnf
 refine Zl h (fun eqTableS0 hb0 h=>?_)
 conv=>whnf
 refine Yb ?_
 refine YJ h (fun h=>?_) (fun h=>?_)
 conv=>whnf
 refine Zl h (fun eqTableS1 hb1 h=>?_)
 conv=>whnf
 refine Yb ?_
 refine YJ h (fun h=>?_) (fun h=>?_)
 conv=>whnf
 cases h
 exact hK
 conv=>whnf
 cases h
 exact hK
 conv=>whnf
 cases h
 exact hK
 conv=>whnf
 cases h
 exact hK
 conv=>whnf
 cases h
 exact hK
 conv=>whnf
 cases h
 exact hK
 conv=>whnf
 cases h
 exact hK
theorem Zzh (q0:Zc Tryz.prog 55 Zw3):Zc Tryz.prog 45 Zxe:=by
 refine Zg Zr (Ze q0 Zj) mixed {loops:=[(0,[.reg 5 (.dat (.int .i64))])],draws:=[(6,[0,0,3,7,0,0,48,112,255,511],.op 0 (.op 1 (.op 2 (.op 3 (.op 4 (.op 5 (.op 6 (.op 7 (.alt 8 (.op 9 (.done)) (.done))))))))))]} (fn:=Tryz.f45) Tryz.func45 (by kernel_rfl) (by kernel_rfl) ?_
 rintro ⟨a0,b0,⟨⟩⟩ K ⟨r,h,hK⟩
 change Zc2 a0 b0=some r at h
 unfold Zc2 at h
 conv=>whnf
 refine Yb ?_
 refine Zz h (fun h=>?_) (fun h=>?_)
 conv=>whnf
 refine Yj h ?_
 rintro I0 μ0 ⟨i0,⟨⟩⟩ zs0 h hI0 hR0
 change ZdJ a0 b0 i0=some zs0 at h
 unfold ZdJ at h
 conv=>whnf
 refine Zz h (fun h=>?_) (fun h=>?_)
 conv=>whnf
 refine ⟨by kernel_rfl,?_⟩
 conv=>whnf
 refine vAt h (fun x0 he1a he1b he1x h=>?_)
 conv=>whnf
 refine vAt h (fun x1 he2a he2b he2x h=>?_)
 conv=>whnf
 refine Zl h (fun eqWire0 hb3 h=>?_)
 conv=>whnf
 refine ⟨trivial,?_⟩
 conv=>whnf
 refine Yb ?_
 refine YJ h (fun h=>?_) (fun h=>?_)
 conv=>whnf
 cases h
 exact ⟨⟨rfl,rfl⟩,hI0 _ rfl⟩
 conv=>whnf
 cases h
 obtain rfl:=hR0 _ rfl
 exact hK
 conv=>whnf
 cases h
 obtain rfl:=hR0 _ rfl
 exact hK
 conv=>whnf
 cases h
 exact hK
theorem ZBf (q0:Zc Tryz.prog 97 Zxh) (q1:Zc Tryz.prog 98 Zyv) (q2:Zc Tryz.prog 99 Zx0):Zc Tryz.prog 47 ZxI:=by
 refine Zg YO (Ze q0 (Ze q1 (Ze q2 Zj))) mixed {} (fn:=Tryz.f47) Tryz.func47 (by kernel_rfl) (by kernel_rfl) ?_
 rintro ⟨a0,k0,⟨⟩⟩ K ⟨r,h,hK⟩
 change ZaO a0 k0=some r at h
 unfold ZaO at h
 conv=>whnf
 intro fp0
 conv=>whnf
 refine Zl h (fun markInstanceS0 hb1 h=>?_)
 conv=>whnf
 intro fp2
 conv=>whnf
 refine Zl h (fun markStringS0 hb3 h=>?_)
 conv=>whnf
 refine Zl h (fun markPortS0 hb4 h=>?_)
 conv=>whnf
 cases h
 exact hK
theorem w14 (q0:Zc Tryz.prog 143 c13):Zc Tryz.prog 77 c14:=by
 refine Zg Zr (Ze q0 Zj) mixed {loops:=[(0,[.reg 1 (.dat (.int .i64)),.reg 5 (.dat (.int .i64))])]} (fn:=Tryz.f77) Tryz.func77 (by kernel_rfl) (by kernel_rfl) ?_
 rintro ⟨a0,left0,⟨⟩⟩ K ⟨r,h,hK⟩
 change ZaY a0 left0=some r at h
 unfold ZaY at h
 conv=>whnf
 refine Zz h (fun h=>?_) (fun h=>?_)
 conv=>whnf
 cases h
 exact hK
 conv=>whnf
 refine Yj h ?_
 rintro I0 μ0 ⟨left1,i0,⟨⟩⟩ zs0 h hI0 hR0
 change ZdC a0 left1 i0=some zs0 at h
 unfold ZdC at h
 conv=>whnf
 refine Zz h (fun h=>?_) (fun h=>?_)
 conv=>whnf
 refine vAt h (fun x0 he1a he1b he1x h=>?_)
 conv=>whnf
 refine Zl h (fun szPort0 hb2 h=>?_)
 conv=>whnf
 refine Zz h (fun h=>?_) (fun h=>?_)
 conv=>whnf
 cases h
 obtain rfl:=hR0 _ rfl
 exact hK
 conv=>whnf
 cases h
 exact ⟨⟨rfl,rfl⟩,hI0 _ rfl⟩
 conv=>whnf
 cases h
 obtain rfl:=hR0 _ rfl
 exact hK
theorem w3 (q0:Zc Tryz.prog 100 c2):Zc Tryz.prog 267 c3:=by
 refine Zg Zr (Ze q0 Zj) mixed {} (fn:=Tryz.f267) Tryz.func267 (by kernel_rfl) (by kernel_rfl) ?_
 rintro ⟨a0,left0,⟨⟩⟩ K ⟨r,h,hK⟩
 change Jc a0 left0=some r at h
 unfold Jc at h
 conv=>whnf
 refine Zl h (fun szInt64S0 hb0 h=>?_)
 conv=>whnf
 refine Zz h (fun h=>?_) (fun h=>?_)
 conv=>whnf
 cases h
 exact hK
 conv=>whnf
 refine Zl h (fun szInt64S1 hb1 h=>?_)
 conv=>whnf
 refine Zz h (fun h=>?_) (fun h=>?_)
 conv=>whnf
 cases h
 exact hK
 conv=>whnf
 refine Zl h (fun szInt64S2 hb2 h=>?_)
 conv=>whnf
 refine Zz h (fun h=>?_) (fun h=>?_)
 conv=>whnf
 cases h
 exact hK
 conv=>whnf
 cases h
 exact hK
theorem w26 (q0:Zc Tryz.prog 251 c25):Zc Tryz.prog 226 c26:=by
 refine Zg YO (Ze q0 Zj) mixed {} (fn:=Tryz.f226) Tryz.func226 (by kernel_rfl) (by kernel_rfl) ?_
 rintro ⟨a0,⟨⟩⟩ K ⟨r,h,hK⟩
 change Zeb a0=some r at h
 unfold Zeb at h
 conv=>whnf
 refine Zl h (fun toTableS0 hb0 h=>?_)
 conv=>whnf
 intro fp1
 conv=>whnf
 refine Zl h (fun toTableS1 hb2 h=>?_)
 conv=>whnf
 intro fp3
 conv=>whnf
 cases h
 exact hK
theorem w36 (q0:Zc Tryz.prog 87 c32) (q1:Zc Tryz.prog 88 c33) (q2:Zc Tryz.prog 89 c35):Zc Tryz.prog 40 c36:=by
 refine Zg YO (Ze q0 (Ze q1 (Ze q2 Zj))) mixed {} (fn:=Tryz.f40) Tryz.func40 (by kernel_rfl) (by kernel_rfl) ?_
 rintro ⟨a0,⟨⟩⟩ K ⟨r,h,hK⟩
 change Zce a0=some r at h
 unfold Zce at h
 conv=>whnf
 refine Zl h (fun toInstanceS0 hb0 h=>?_)
 conv=>whnf
 intro fp1
 conv=>whnf
 refine Zl h (fun toStringS0 hb2 h=>?_)
 conv=>whnf
 refine Zl h (fun toPortS0 hb3 h=>?_)
 conv=>whnf
 cases h
 exact hK
theorem w31 (q0:Zc Tryz.prog 101 c23):Zc Tryz.prog 147 c31:=by
 refine Zg Zr (Ze q0 Zj) mixed {} (fn:=Tryz.f147) Tryz.func147 (by kernel_rfl) (by kernel_rfl) ?_
 rintro ⟨a0,⟨⟩⟩ K ⟨r,h,hK⟩
 change JK a0=some r at h
 unfold JK at h
 conv=>whnf
 refine Zl h (fun toInt64S0 hb0 h=>?_)
 conv=>whnf
 cases h
 exact hK
theorem w25 (q0:Zc Tryz.prog 268 c24):Zc Tryz.prog 251 c25:=by
 refine Zg YO (Ze q0 Zj) mixed {loops:=[(0,[.reg 4 (.dat (.int .i64)),.ent 0 (nat_lit 263) ZeJ])]} (fn:=Tryz.f251) Tryz.func251 (by kernel_rfl) (by kernel_rfl) ?_
 rintro ⟨a0,⟨⟩⟩ K ⟨r,h,hK⟩
 change Za6 a0=some r at h
 unfold Za6 at h
 conv=>whnf
 refine Qt h (fun hp0 h=>?_)
 conv=>whnf
 refine Qt h (fun hp1 h=>?_)
 conv=>whnf
 refine Qt h (fun hp2 h=>?_)
 conv=>whnf
 refine Qt h (fun hp3 h=>?_)
 conv=>whnf
 intro fp4
 conv=>whnf
 refine Yj h ?_
 rintro I5 μ5 ⟨i0,l0,⟨⟩⟩ zs5 h hI5 hR5
 change ZcX a0 i0 l0=some zs5 at h
 unfold ZcX at h
 conv=>whnf
 intro fp6
 conv=>whnf
 refine Zz h (fun h=>?_) (fun h=>?_)
 conv=>whnf
 refine vAt h (fun x0 he7a he7b he7x h=>?_)
 conv=>whnf
 refine Zl h (fun toTable0 hb8 h=>?_)
 conv=>whnf
 refine vAt h (fun x1 he9a he9b he9x h=>?_)
 conv=>whnf
 refine ⟨he9a,he9b,Zp he9x ?_⟩
 conv=>whnf
 intro fp10
 conv=>whnf
 cases h
 exact ⟨⟨rfl,rfl⟩,hI5 _ rfl⟩
 conv=>whnf
 cases h
 obtain rfl:=hR5 _ rfl
 exact hK
theorem Zzm:Zc Tryz.prog 197 c146:=by
 refine Zg Zr Zj mixed {} (fn:=Tryz.f197) Tryz.func197 (by kernel_rfl) (by kernel_rfl) ?_
 rintro ⟨s0,⟨⟩⟩ K ⟨r,h,hK⟩
 change Y0 s0=some r at h
 unfold Y0 at h
 conv=>whnf
 refine ⟨fun hd=>?_,?_⟩
 have h:=Zrx (T:=(some ([]:List ZT))) h (by simp [hd,Zx])
 conv=>whnf
 cases h
 exact hK
 conv=>whnf
 refine Qt h (fun hp0 h=>?_)
 conv=>whnf
 cases h
 exact hK
theorem ZAO:Zc Tryz.prog 199 Zxa:=by
 refine Zg Zr Zj mixed {} (fn:=Tryz.f199) Tryz.func199 (by kernel_rfl) (by kernel_rfl) ?_
 rintro ⟨s0,⟨⟩⟩ K ⟨r,h,hK⟩
 change Yu s0=some r at h
 unfold Yu at h
 conv=>whnf
 refine ⟨fun hd=>?_,?_⟩
 have h:=Zrx (T:=(some ([]:List Zd))) h (by simp [hd,Zx])
 conv=>whnf
 cases h
 exact hK
 conv=>whnf
 refine Qt h (fun hp0 h=>?_)
 conv=>whnf
 cases h
 exact hK
theorem ZB9 (q0:Zc Tryz.prog 286 Zxw):Zc Tryz.prog 275 c109:=by
 refine Zg Zr (Ze q0 Zj) mixed {} (fn:=Tryz.f275) Tryz.func275 (by kernel_rfl) (by kernel_rfl) ?_
 rintro ⟨s0,f0,⟨⟩⟩ K ⟨r,h,hK⟩
 change ZF s0 f0=some r at h
 unfold ZF at h
 conv=>whnf
 refine Zl h (fun c1_0 hb0 h=>?_)
 conv=>whnf
 cases h
 exact hK
theorem ZCf (q0:Zc Tryz.prog 247 c117):Zc Tryz.prog 265 Zxi:=by
 refine Zg Zr (Ze q0 Zj) mixed {loops:=[(0,[.reg 8 (.dat (.int .i64))])]} (fn:=Tryz.f265) Tryz.func265 (by kernel_rfl) (by kernel_rfl) ?_
 rintro ⟨s0,f0,⟨⟩⟩ K ⟨r,h,hK⟩
 change ZK s0 f0=some r at h
 unfold ZK at h
 conv=>whnf
 refine Yj h ?_
 rintro I0 μ0 ⟨v0,⟨⟩⟩ zs0 h hI0 hR0
 change ZR s0 f0 v0=some zs0 at h
 unfold ZR at h
 conv=>whnf
 refine Zz h (fun h=>?_) (fun h=>?_)
 conv=>whnf
 refine vAt h (fun x0 he1a he1b he1x h=>?_)
 conv=>whnf
 refine Zl h (fun c1_0 hb2 h=>?_)
 conv=>whnf
 refine YJ h (fun h=>?_) (fun h=>?_)
 conv=>whnf
 cases h
 obtain rfl:=hR0 _ rfl
 exact hK
 conv=>whnf
 cases h
 exact ⟨⟨rfl,rfl⟩,hI0 _ rfl⟩
 conv=>whnf
 cases h
 obtain rfl:=hR0 _ rfl
 exact hK
theorem ZzL (q0:Zc Tryz.prog 173 Zw9):Zc Tryz.prog 172 ZxZ:=by
 refine Zg Zr (Ze q0 Zj) mixed {loops:=[(0,[.reg 8 (.dat (.int .i64))])]} (fn:=Tryz.f172) Tryz.func172 (by kernel_rfl) (by kernel_rfl) ?_
 rintro ⟨s0,f0,⟨⟩⟩ K ⟨r,h,hK⟩
 change ZC s0 f0=some r at h
 unfold ZC at h
 conv=>whnf
 refine Yj h ?_
 rintro I0 μ0 ⟨v0,⟨⟩⟩ zs0 h hI0 hR0
 change ZH s0 f0 v0=some zs0 at h
 unfold ZH at h
 conv=>whnf
 refine Zz h (fun h=>?_) (fun h=>?_)
 conv=>whnf
 refine vAt h (fun x0 he1a he1b he1x h=>?_)
 conv=>whnf
 refine Zl h (fun c1_0 hb2 h=>?_)
 conv=>whnf
 refine YJ h (fun h=>?_) (fun h=>?_)
 conv=>whnf
 cases h
 obtain rfl:=hR0 _ rfl
 exact hK
 conv=>whnf
 cases h
 exact ⟨⟨rfl,rfl⟩,hI0 _ rfl⟩
 conv=>whnf
 cases h
 obtain rfl:=hR0 _ rfl
 exact hK
theorem w51 (q1:Zc Tryz.prog 229 c44) (q2:Zc Tryz.prog 124 c42) (q4:Zc Tryz.prog 121 c43) (q3:Zc Tryz.prog 230 c49) (q0:Zc Tryz.prog 231 c50):Zc Tryz.prog 206 c51:=by
 refine Zg Zr (Ze q1 (Ze q2 (Ze q4 (Ze q3 (Ze q0 Zj))))) mixed {loops:=[(0,[.reg 5 (.dat (.int .i64))]),(2,[.reg 7 (.dat (.int .i64))]),(5,[.reg 9 (.dat (.int .i64))])],draws:=[(13,[0,1,0,7,15,31,0,64,255,511,1023,2047,1023,8191,16383,32767,1023,66559,262143,524287,1048575,2097151,4194303,2097151,16777215,33554431,67108863,2097151,136314879,536870911,1073741823],.op 0 (.op 1 (.op 2 (.op 3 (.op 4 (.op 5 (.op 6 (.op 7 (.op 8 (.op 9 (.op 10 (.op 11 (.op 12 (.op 13 (.op 14 (.op 15 (.op 16 (.op 17 (.op 18 (.op 19 (.op 20 (.op 21 (.op 22 (.op 23 (.op 24 (.op 25 (.op 26 (.op 27 (.op 28 (.op 29 (.op 30 (.done)))))))))))))))))))))))))))))))),(25,[0,1,3,7,15,31,63,127,255,511,1023,2047,4095,511,8703,25087,57855,131071,262143,524287,1048575,2097151,4194303,8388607,16777215,33554431],.op 0 (.op 1 (.op 2 (.op 3 (.op 4 (.op 5 (.op 6 (.op 7 (.op 8 (.op 9 (.op 10 (.op 11 (.op 12 (.op 13 (.op 14 (.op 15 (.op 16 (.op 17 (.op 18 (.op 19 (.op 20 (.op 21 (.op 22 (.op 23 (.op 24 (.op 25 (.done)))))))))))))))))))))))))))]} (fn:=Tryz.f206) Tryz.func206 (by kernel_rfl) (by kernel_rfl) ?_
 rintro ⟨a0,⟨⟩⟩ K ⟨r,h,hK⟩
 change Zen a0=some r at h
 unfold Zen at h
 conv=>whnf
 refine Zl h (fun l03Pins0 hb0 h=>?_)
 conv=>whnf
 refine ZeX ?_
 refine YJ h (fun h=>?_) (fun h=>?_)
 conv=>whnf
 refine Zl h (fun l03Name0 hb1 h=>?_)
 conv=>whnf
 refine ZeX ?_
 refine YJ h (fun h=>?_) (fun h=>?_)
 conv=>whnf
 refine Zk4 h (fun h=>?_) (fun h=>?_)
 conv=>whnf
 cases h
 exact hK
 conv=>whnf
 refine Zl h (fun l01In0 hb2 h=>?_)
 conv=>whnf
 refine ZeX ?_
 refine YJ h (fun h=>?_) (fun h=>?_)
 conv=>whnf
 refine Zl h (fun l01In1 hb3 h=>?_)
 conv=>whnf
 refine Yb ?_
 refine YJ h (fun h=>?_) (fun h=>?_)
 conv=>whnf
 refine Yj h ?_
 rintro I4 μ4 ⟨v0,⟨⟩⟩ zs4 h hI4 hR4
 change ZaP a0 l03Pins0 v0=some zs4 at h
 unfold ZaP at h
 conv=>whnf
 refine Zz h (fun h=>?_) (fun h=>?_)
 conv=>whnf
 refine vAt h (fun x0 he5a he5b he5x h=>?_)
 conv=>whnf
 refine Zl h (fun l03Arc0 hb6 h=>?_)
 conv=>whnf
 refine Yb ?_
 refine YJ h (fun h=>?_) (fun h=>?_)
 conv=>whnf
 refine Yj h ?_
 rintro I7 μ7 ⟨v1,⟨⟩⟩ zs7 h hI7 hR7
 change Jh a0 v0 x0 v1=some zs7 at h
 unfold Jh at h
 conv=>whnf
 refine Zz h (fun h=>?_) (fun h=>?_)
 conv=>whnf
 refine ⟨by kernel_rfl,?_⟩
 conv=>whnf
 refine vAt h (fun x1 he8a he8b he8x h=>?_)
 conv=>whnf
 refine Zz h (fun h=>?_) (fun h=>?_)
 conv=>whnf
 refine ⟨he8a,he8b,Zp he8x ?_⟩
 conv=>whnf
 refine Zz h (fun h=>?_) (fun h=>?_)
 conv=>whnf
 refine ⟨he8a,he8b,Zp he8x ?_⟩
 conv=>whnf
 refine ⟨trivial,?_⟩
 conv=>whnf
 refine Zz h (fun h=>?_) (fun h=>?_)
 conv=>whnf
 cases h
 obtain rfl:=hR7 _ rfl
 obtain rfl:=hR4 _ rfl
 exact hK
 conv=>whnf
 cases h
 exact ⟨⟨rfl,rfl⟩,hI7 _ rfl⟩
 conv=>whnf
 refine ⟨trivial,?_⟩
 conv=>whnf
 cases h
 exact ⟨⟨rfl,rfl⟩,hI7 _ rfl⟩
 conv=>whnf
 refine ⟨trivial,?_⟩
 conv=>whnf
 cases h
 exact ⟨⟨rfl,rfl⟩,hI7 _ rfl⟩
 conv=>whnf
 cases h
 obtain rfl:=hR7 _ rfl
 exact ⟨⟨rfl,rfl⟩,hI4 _ rfl⟩
 conv=>whnf
 cases h
 obtain rfl:=hR4 _ rfl
 exact hK
 conv=>whnf
 refine Zl h (fun l03Kinds0 hb9 h=>?_)
 conv=>whnf
 refine Zz h (fun h=>?_) (fun h=>?_)
 conv=>whnf
 refine Yj h ?_
 rintro I10 μ10 ⟨v1,⟨⟩⟩ zs10 h hI10 hR10
 change Jg a0 l03Pins0 v1=some zs10 at h
 unfold Jg at h
 conv=>whnf
 refine Zz h (fun h=>?_) (fun h=>?_)
 conv=>whnf
 refine vAt h (fun x0 he11a he11b he11x h=>?_)
 conv=>whnf
 refine Zl h (fun l01In2 hb12 h=>?_)
 conv=>whnf
 refine Yb ?_
 refine YJ h (fun h=>?_) (fun h=>?_)
 conv=>whnf
 cases h
 exact ⟨⟨rfl,rfl⟩,hI10 _ rfl⟩
 conv=>whnf
 cases h
 obtain rfl:=hR10 _ rfl
 obtain rfl:=hR4 _ rfl
 exact hK
 conv=>whnf
 refine Zz h (fun h=>?_) (fun h=>?_)
 conv=>whnf
 refine Qt h (fun hp13 h=>?_)
 conv=>whnf
 cases h
 obtain rfl:=hR10 _ rfl
 obtain rfl:=hR4 _ rfl
 exact hK
 conv=>whnf
 cases h
 obtain rfl:=hR10 _ rfl
 obtain rfl:=hR4 _ rfl
 exact hK
 conv=>whnf
 refine Zz h (fun h=>?_) (fun h=>?_)
 conv=>whnf
 refine ⟨by kernel_rfl,?_⟩
 conv=>whnf
 refine Zz h (fun h=>?_) (fun h=>?_)
 conv=>whnf
 refine vAt h (fun x0 he14a he14b he14x h=>?_)
 conv=>whnf
 refine ⟨by kernel_rfl,?_⟩
 conv=>whnf
 refine ⟨he14a,he14b,Zp he14x ?_⟩
 conv=>whnf
 refine Zz h (fun h=>?_) (fun h=>?_)
 conv=>whnf
 refine vAt h (fun x1 he15a he15b he15x h=>?_)
 conv=>whnf
 refine ⟨by kernel_rfl,?_⟩
 conv=>whnf
 refine ⟨he15a,he15b,Zp he15x ?_⟩
 conv=>whnf
 refine vAt h (fun x2 he16a he16b he16x h=>?_)
 conv=>whnf
 refine ⟨by kernel_rfl,?_⟩
 conv=>whnf
 refine ⟨he16a,he16b,Zp he16x ?_⟩
 conv=>whnf
 refine Yb ?_
 refine YJ h (fun h=>?_) (fun h=>?_)
 conv=>whnf
 refine ⟨trivial,?_⟩
 conv=>whnf
 cases h
 obtain rfl:=hR4 _ rfl
 exact hK
 conv=>whnf
 refine ⟨trivial,?_⟩
 conv=>whnf
 cases h
 obtain rfl:=hR4 _ rfl
 exact hK
 conv=>whnf
 refine ⟨trivial,?_⟩
 conv=>whnf
 cases h
 obtain rfl:=hR4 _ rfl
 exact hK
 conv=>whnf
 refine ⟨trivial,?_⟩
 conv=>whnf
 cases h
 obtain rfl:=hR4 _ rfl
 exact hK
 conv=>whnf
 refine Zz h (fun h=>?_) (fun h=>?_)
 conv=>whnf
 refine Zz h (fun h=>?_) (fun h=>?_)
 conv=>whnf
 refine vAt h (fun x0 he17a he17b he17x h=>?_)
 conv=>whnf
 refine ⟨by kernel_rfl,?_⟩
 conv=>whnf
 refine ⟨he17a,he17b,Zp he17x ?_⟩
 conv=>whnf
 refine Zz h (fun h=>?_) (fun h=>?_)
 conv=>whnf
 refine vAt h (fun x1 he18a he18b he18x h=>?_)
 conv=>whnf
 refine ⟨by kernel_rfl,?_⟩
 conv=>whnf
 refine ⟨he18a,he18b,Zp he18x ?_⟩
 conv=>whnf
 refine Zz h (fun h=>?_) (fun h=>?_)
 conv=>whnf
 refine vAt h (fun x2 he19a he19b he19x h=>?_)
 conv=>whnf
 refine ⟨by kernel_rfl,?_⟩
 conv=>whnf
 refine ⟨he19a,he19b,Zp he19x ?_⟩
 conv=>whnf
 refine Zz h (fun h=>?_) (fun h=>?_)
 conv=>whnf
 cases h
 obtain rfl:=hR4 _ rfl
 exact hK
 conv=>whnf
 cases h
 obtain rfl:=hR4 _ rfl
 exact hK
 conv=>whnf
 cases h
 obtain rfl:=hR4 _ rfl
 exact hK
 conv=>whnf
 cases h
 obtain rfl:=hR4 _ rfl
 exact hK
 conv=>whnf
 cases h
 obtain rfl:=hR4 _ rfl
 exact hK
 conv=>whnf
 cases h
 obtain rfl:=hR4 _ rfl
 exact hK
 conv=>whnf
 cases h
 exact hK
 conv=>whnf
 cases h
 exact hK
 conv=>whnf
 cases h
 exact hK
 conv=>whnf
 cases h
 exact hK
theorem w52 (q0:Zc Tryz.prog 206 c51):Zc Tryz.prog 162 c52:=by
 refine Zg Zr (Ze q0 Zj) mixed {loops:=[(0,[.reg 3 (.dat (.int .i64))]),(2,[.reg 4 (.dat (.int .i64))])],draws:=[(9,[0,1,0,7,15,31,0,64,0,448,960,1984,4095],.op 0 (.op 1 (.op 2 (.op 3 (.op 4 (.op 5 (.op 6 (.op 7 (.op 8 (.op 9 (.op 10 (.op 11 (.op 12 (.done))))))))))))))]} (fn:=Tryz.f162) Tryz.func162 (by kernel_rfl) (by kernel_rfl) ?_
 rintro ⟨l0,⟨⟩⟩ K ⟨r,h,hK⟩
 change Zbw l0=some r at h
 unfold Zbw at h
 conv=>whnf
 refine Yj h ?_
 rintro I0 μ0 ⟨i0,⟨⟩⟩ zs0 h hI0 hR0
 change VU l0 i0=some zs0 at h
 unfold VU at h
 conv=>whnf
 refine Zz h (fun h=>?_) (fun h=>?_)
 conv=>whnf
 refine vAt h (fun x0 he1a he1b he1x h=>?_)
 conv=>whnf
 refine Zl h (fun IsCell0 hb2 h=>?_)
 conv=>whnf
 refine Yb ?_
 refine YJ h (fun h=>?_) (fun h=>?_)
 conv=>whnf
 refine Yj h ?_
 rintro I3 μ3 ⟨k0,⟨⟩⟩ zs3 h hI3 hR3
 change VX l0 i0 x0 k0=some zs3 at h
 unfold VX at h
 conv=>whnf
 refine Zz h (fun h=>?_) (fun h=>?_)
 conv=>whnf
 refine ⟨by kernel_rfl,?_⟩
 conv=>whnf
 refine vAt h (fun x1 he4a he4b he4x h=>?_)
 conv=>whnf
 refine ⟨he1a,he1b,Zp he1x ?_⟩
 conv=>whnf
 refine ⟨trivial,?_⟩
 conv=>whnf
 refine Zz h (fun h=>?_) (fun h=>?_)
 conv=>whnf
 cases h
 obtain rfl:=hR3 _ rfl
 obtain rfl:=hR0 _ rfl
 exact hK
 conv=>whnf
 cases h
 exact ⟨⟨rfl,rfl⟩,hI3 _ rfl⟩
 conv=>whnf
 cases h
 obtain rfl:=hR3 _ rfl
 exact ⟨⟨rfl,rfl⟩,hI0 _ rfl⟩
 conv=>whnf
 cases h
 obtain rfl:=hR0 _ rfl
 exact hK
 conv=>whnf
 cases h
 obtain rfl:=hR0 _ rfl
 exact hK
theorem w46 (q0:Zc Tryz.prog 288 c45) (q1:Zc Tryz.prog 121 c43):Zc Tryz.prog 281 c46:=by
 refine Zg Zr (Ze q0 (Ze q1 Zj)) mixed {loops:=[(0,[.reg 3 (.dat (.int .i64))])]} (fn:=Tryz.f281) Tryz.func281 (by kernel_rfl) (by kernel_rfl) ?_
 rintro ⟨t0,⟨⟩⟩ K ⟨r,h,hK⟩
 change Zdd t0=some r at h
 unfold Zdd at h
 conv=>whnf
 refine Zl h (fun l02Axis0 hb0 h=>?_)
 conv=>whnf
 refine ZeX ?_
 refine YJ h (fun h=>?_) (fun h=>?_)
 conv=>whnf
 refine Zl h (fun l02Axis1 hb1 h=>?_)
 conv=>whnf
 refine ZeX ?_
 refine YJ h (fun h=>?_) (fun h=>?_)
 conv=>whnf
 refine Yb ?_
 refine Zz h (fun h=>?_) (fun h=>?_)
 conv=>whnf
 refine Yj h ?_
 rintro I2 μ2 ⟨i0,⟨⟩⟩ zs2 h hI2 hR2
 change Zal t0 i0=some zs2 at h
 unfold Zal at h
 conv=>whnf
 refine Zz h (fun h=>?_) (fun h=>?_)
 conv=>whnf
 refine vAt h (fun x0 he3a he3b he3x h=>?_)
 conv=>whnf
 refine Zl h (fun l01In0 hb4 h=>?_)
 conv=>whnf
 refine Yb ?_
 refine YJ h (fun h=>?_) (fun h=>?_)
 conv=>whnf
 cases h
 exact ⟨⟨rfl,rfl⟩,hI2 _ rfl⟩
 conv=>whnf
 cases h
 obtain rfl:=hR2 _ rfl
 exact hK
 conv=>whnf
 cases h
 obtain rfl:=hR2 _ rfl
 exact hK
 conv=>whnf
 cases h
 exact hK
 conv=>whnf
 cases h
 exact hK
 conv=>whnf
 cases h
 exact hK
theorem w58 (q0:Zc Tryz.prog 121 c43):Zc Tryz.prog 114 c58:=by
 refine Zg Zr (Ze q0 Zj) mixed {loops:=[(0,[.reg 6 (.dat (.int .i64))]),(2,[.reg 7 (.dat (.int .i64))])]} (fn:=Tryz.f114) Tryz.func114 (by kernel_rfl) (by kernel_rfl) ?_
 rintro ⟨a0,a1,⟨⟩⟩ K ⟨r,h,hK⟩
 change ZcS a0 a1=some r at h
 unfold ZcS at h
 conv=>whnf
 refine Zk4 h (fun h=>?_) (fun h=>?_)
 conv=>whnf
 cases h
 exact hK
 conv=>whnf
 refine Zk4 h (fun h=>?_) (fun h=>?_)
 conv=>whnf
 cases h
 exact hK
 conv=>whnf
 refine ZeX ?_
 refine Zz h (fun h=>?_) (fun h=>?_)
 conv=>whnf
 refine ZeX ?_
 refine Zz h (fun h=>?_) (fun h=>?_)
 conv=>whnf
 refine Yb ?_
 refine Zz h (fun h=>?_) (fun h=>?_)
 conv=>whnf
 refine Yj h ?_
 rintro I0 μ0 ⟨v0,⟨⟩⟩ zs0 h hI0 hR0
 change ZaM a0 v0=some zs0 at h
 unfold ZaM at h
 conv=>whnf
 refine Zz h (fun h=>?_) (fun h=>?_)
 conv=>whnf
 refine vAt h (fun x0 he1a he1b he1x h=>?_)
 conv=>whnf
 refine Zl h (fun l01In0 hb2 h=>?_)
 conv=>whnf
 refine ZeX ?_
 refine YJ h (fun h=>?_) (fun h=>?_)
 conv=>whnf
 refine vAt h (fun x1 he3a he3b he3x h=>?_)
 conv=>whnf
 refine Zl h (fun l01In1 hb4 h=>?_)
 conv=>whnf
 refine Yb ?_
 refine YJ h (fun h=>?_) (fun h=>?_)
 conv=>whnf
 refine Zz h (fun h=>?_) (fun h=>?_)
 conv=>whnf
 refine vAt h (fun x2 he5a he5b he5x h=>?_)
 conv=>whnf
 refine ZeX ?_
 refine Zz h (fun h=>?_) (fun h=>?_)
 conv=>whnf
 refine ⟨he3a,he3b,Zp he3x ?_⟩
 conv=>whnf
 refine ZeX ?_
 refine Zz h (fun h=>?_) (fun h=>?_)
 conv=>whnf
 refine Zz h (fun h=>?_) (fun h=>?_)
 conv=>whnf
 refine ⟨he5a,he5b,Zp he5x ?_⟩
 conv=>whnf
 refine Zl h (fun l01In2 hb6 h=>?_)
 conv=>whnf
 refine Yb ?_
 refine YJ h (fun h=>?_) (fun h=>?_)
 conv=>whnf
 cases h
 exact ⟨⟨rfl,rfl⟩,hI0 _ rfl⟩
 conv=>whnf
 cases h
 obtain rfl:=hR0 _ rfl
 exact hK
 conv=>whnf
 cases h
 exact ⟨⟨rfl,rfl⟩,hI0 _ rfl⟩
 conv=>whnf
 cases h
 obtain rfl:=hR0 _ rfl
 exact hK
 conv=>whnf
 cases h
 obtain rfl:=hR0 _ rfl
 exact hK
 conv=>whnf
 refine Zz h (fun h=>?_) (fun h=>?_)
 conv=>whnf
 refine vAt h (fun x2 he7a he7b he7x h=>?_)
 conv=>whnf
 refine Zl h (fun l01In2 hb8 h=>?_)
 conv=>whnf
 refine Yb ?_
 refine YJ h (fun h=>?_) (fun h=>?_)
 conv=>whnf
 cases h
 exact ⟨⟨rfl,rfl⟩,hI0 _ rfl⟩
 conv=>whnf
 cases h
 obtain rfl:=hR0 _ rfl
 exact hK
 conv=>whnf
 cases h
 exact ⟨⟨rfl,rfl⟩,hI0 _ rfl⟩
 conv=>whnf
 cases h
 obtain rfl:=hR0 _ rfl
 exact hK
 conv=>whnf
 cases h
 obtain rfl:=hR0 _ rfl
 exact hK
 conv=>whnf
 refine Yj h ?_
 rintro I9 μ9 ⟨v1,⟨⟩⟩ zs9 h hI9 hR9
 change ZaB a0 v1=some zs9 at h
 unfold ZaB at h
 conv=>whnf
 refine Zz h (fun h=>?_) (fun h=>?_)
 conv=>whnf
 refine vAt h (fun x0 he10a he10b he10x h=>?_)
 conv=>whnf
 refine Zl h (fun l01In0 hb11 h=>?_)
 conv=>whnf
 refine Yb ?_
 refine YJ h (fun h=>?_) (fun h=>?_)
 conv=>whnf
 cases h
 exact ⟨⟨rfl,rfl⟩,hI9 _ rfl⟩
 conv=>whnf
 cases h
 obtain rfl:=hR9 _ rfl
 obtain rfl:=hR0 _ rfl
 exact hK
 conv=>whnf
 cases h
 obtain rfl:=hR9 _ rfl
 obtain rfl:=hR0 _ rfl
 exact hK
 conv=>whnf
 cases h
 exact hK
 conv=>whnf
 cases h
 exact hK
 conv=>whnf
 cases h
 exact hK
theorem w47 (q0:Zc Tryz.prog 281 c46):Zc Tryz.prog 270 c47:=by
 refine Zg Zr (Ze q0 Zj) mixed {loops:=[(0,[.reg 5 (.dat (.int .i64)),.cell 1004 0 (.int .i64),.cell 1004 1 (.int .i64)])],draws:=[(3,[0,1,3,7,0,16,48,112,255,0,1023],.op 0 (.op 1 (.op 2 (.op 3 (.op 4 (.op 5 (.op 6 (.op 7 (.op 8 (.alt 9 (.alt 10 (.done) (.done)) (.done))))))))))),(7,[0,1,0,4,0,28,60,127,255,511],.op 0 (.op 1 (.op 2 (.op 3 (.op 4 (.op 5 (.op 6 (.op 7 (.op 8 (.alt 9 (.done) (.done))))))))))),(8,[0,1,0,4,0,28,60,127,255,511],.op 0 (.op 1 (.op 2 (.op 3 (.op 4 (.op 5 (.op 6 (.op 7 (.op 8 (.alt 9 (.done) (.done)))))))))))]} (fn:=Tryz.f270) Tryz.func270 (by kernel_rfl) (by kernel_rfl) ?_
 rintro ⟨t0,⟨⟩⟩ K ⟨r,h,hK⟩
 change J6 t0=some r at h
 unfold J6 at h
 conv=>whnf
 refine Zl h (fun IsTable0 hb0 h=>?_)
 conv=>whnf
 refine Yb ?_
 refine YJ h (fun h=>?_) (fun h=>?_)
 conv=>whnf
 refine ⟨by kernel_rfl,?_⟩
 conv=>whnf
 refine vAt h (fun x0 he1a he1b he1x h=>?_)
 conv=>whnf
 refine ⟨he1a,he1b,Zp he1x ?_⟩
 conv=>whnf
 refine ⟨trivial,?_⟩
 conv=>whnf
 refine Yj h ?_
 rintro I2 μ2 ⟨i0,c0,c1,⟨⟩⟩ zs2 h hI2 hR2
 change XL t0 i0 c0 c1=some zs2 at h
 unfold XL at h
 conv=>whnf
 refine Zz h (fun h=>?_) (fun h=>?_)
 conv=>whnf
 refine ⟨by kernel_rfl,?_⟩
 conv=>whnf
 refine vAt h (fun x1 he3a he3b he3x h=>?_)
 conv=>whnf
 refine ⟨trivial,?_⟩
 conv=>whnf
 refine ⟨by kernel_rfl,?_⟩
 conv=>whnf
 refine ⟨he3a,he3b,Zp he3x ?_⟩
 conv=>whnf
 refine ⟨trivial,?_⟩
 conv=>whnf
 cases h
 exact ⟨⟨rfl,rfl⟩,hI2 _ rfl⟩
 conv=>whnf
 cases h
 obtain rfl:=hR2 _ rfl
 exact hK
 conv=>whnf
 cases h
 exact hK
theorem w42:Zc Tryz.prog 124 c42:=by
 refine Zg Zr Zj mixed {loops:=[(0,[.reg 3 (.dat (.int .i64))])]} (fn:=Tryz.f124) Tryz.func124 (by kernel_rfl) (by kernel_rfl) ?_
 rintro ⟨s0,⟨⟩⟩ K ⟨r,h,hK⟩
 change Zai s0=some r at h
 unfold Zai at h
 conv=>whnf
 refine Yj h ?_
 rintro I0 μ0 ⟨i0,⟨⟩⟩ zs0 h hI0 hR0
 change Zac s0 i0=some zs0 at h
 unfold Zac at h
 conv=>whnf
 refine Zz h (fun h=>?_) (fun h=>?_)
 conv=>whnf
 refine vAt h (fun x0 he1a he1b he1x h=>?_)
 conv=>whnf
 refine Zz h (fun h=>?_) (fun h=>?_)
 conv=>whnf
 refine ⟨he1a,he1b,Zp he1x ?_⟩
 conv=>whnf
 refine ⟨he1a,he1b,Zp he1x ?_⟩
 conv=>whnf
 refine Zz h (fun h=>?_) (fun h=>?_)
 conv=>whnf
 refine ⟨he1a,he1b,Zp he1x ?_⟩
 conv=>whnf
 refine Yb ?_
 refine Zz h (fun h=>?_) (fun h=>?_)
 conv=>whnf
 cases h
 exact ⟨⟨rfl,rfl⟩,hI0 _ rfl⟩
 conv=>whnf
 refine Zz h (fun h=>?_) (fun h=>?_)
 conv=>whnf
 refine Yb ?_
 refine Zz h (fun h=>?_) (fun h=>?_)
 conv=>whnf
 cases h
 exact ⟨⟨rfl,rfl⟩,hI0 _ rfl⟩
 conv=>whnf
 cases h
 obtain rfl:=hR0 _ rfl
 exact hK
 conv=>whnf
 cases h
 obtain rfl:=hR0 _ rfl
 exact hK
 conv=>whnf
 refine Yb ?_
 refine Zz h (fun h=>?_) (fun h=>?_)
 conv=>whnf
 cases h
 exact ⟨⟨rfl,rfl⟩,hI0 _ rfl⟩
 conv=>whnf
 cases h
 obtain rfl:=hR0 _ rfl
 exact hK
 conv=>whnf
 refine ⟨he1a,he1b,Zp he1x ?_⟩
 conv=>whnf
 refine Zz h (fun h=>?_) (fun h=>?_)
 conv=>whnf
 refine ⟨he1a,he1b,Zp he1x ?_⟩
 conv=>whnf
 refine Zz h (fun h=>?_) (fun h=>?_)
 conv=>whnf
 refine Yb ?_
 refine Zz h (fun h=>?_) (fun h=>?_)
 conv=>whnf
 cases h
 exact ⟨⟨rfl,rfl⟩,hI0 _ rfl⟩
 conv=>whnf
 cases h
 obtain rfl:=hR0 _ rfl
 exact hK
 conv=>whnf
 cases h
 obtain rfl:=hR0 _ rfl
 exact hK
 conv=>whnf
 cases h
 obtain rfl:=hR0 _ rfl
 exact hK
 conv=>whnf
 refine Zz h (fun h=>?_) (fun h=>?_)
 conv=>whnf
 cases h
 obtain rfl:=hR0 _ rfl
 exact hK
 conv=>whnf
 cases h
 obtain rfl:=hR0 _ rfl
 exact hK
theorem w56:Zc Tryz.prog 78 c56:=by
 refine Zg Zr Zj mixed {loops:=[(0,[.reg 3 (.own (.ol 126 (.flat (Zfr)))),.reg 4 (.dat (.int .i64))]),(2,[.reg 3 (.own (.ol 126 (.flat (Zfr)))),.reg 6 (.dat (.int .i64))]),(4,[.reg 3 (.own (.ol 126 (.flat (Zfr)))),.reg 7 (.dat (.int .i64))])],draws:=[(13,[0,0,0,4,0,28,60,124,0,256,0,1792,3840,7936,16128,32766,65534,131071,262143],.op 0 (.op 1 (.op 2 (.op 3 (.op 4 (.op 5 (.op 6 (.op 7 (.op 8 (.op 9 (.op 10 (.op 11 (.op 12 (.op 13 (.op 14 (.op 15 (.alt 16 (.alt 17 (.op 18 (.done)) (.done)) (.done))))))))))))))))))]} (fn:=Tryz.f78) Tryz.func78 (by kernel_rfl) (by kernel_rfl) ?_
 rintro ⟨a0,⟨⟩⟩ K ⟨r,h,hK⟩
 change Y9 a0=some r at h
 unfold Y9 at h
 conv=>whnf
 refine Yj h ?_
 rintro I0 μ0 ⟨v0,v1,⟨⟩⟩ zs0 h hI0 hR0
 change VQ a0 v0 v1=some zs0 at h
 unfold VQ at h
 conv=>whnf
 refine Zz h (fun h=>?_) (fun h=>?_)
 conv=>whnf
 refine vAt h (fun x0 he1a he1b he1x h=>?_)
 conv=>whnf
 refine Yj h ?_
 rintro I2 μ2 ⟨v2,v3,⟨⟩⟩ zs2 h hI2 hR2
 change VY v1 x0 v2 v3=some zs2 at h
 unfold VY at h
 conv=>whnf
 refine Zz h (fun h=>?_) (fun h=>?_)
 conv=>whnf
 refine vAt h (fun x1 he3a he3b he3x h=>?_)
 conv=>whnf
 refine Qt h (fun hp4 h=>?_)
 conv=>whnf
 cases h
 exact ⟨⟨rfl,rfl⟩,hI2 _ rfl⟩
 conv=>whnf
 cases h
 obtain rfl:=hR2 _ rfl
 exact ⟨⟨rfl,rfl⟩,hI0 _ rfl⟩
 conv=>whnf
 refine Yj h ?_
 rintro I5 μ5 ⟨v2,v3,⟨⟩⟩ zs5 h hI5 hR5
 change VR a0 v2 v3=some zs5 at h
 unfold VR at h
 conv=>whnf
 refine Zz h (fun h=>?_) (fun h=>?_)
 conv=>whnf
 refine ⟨by kernel_rfl,?_⟩
 conv=>whnf
 refine vAt h (fun x0 he6a he6b he6x h=>?_)
 conv=>whnf
 refine ⟨he6a,he6b,Zp he6x ?_⟩
 conv=>whnf
 refine Qt h (fun hp7 h=>?_)
 conv=>whnf
 refine ⟨trivial,?_⟩
 conv=>whnf
 cases h
 exact ⟨⟨rfl,rfl⟩,hI5 _ rfl⟩
 conv=>whnf
 cases h
 obtain rfl:=hR5 _ rfl
 obtain rfl:=hR0 _ rfl
 exact hK
theorem w85 (q7:Zc Tryz.prog 61 c67) (q2:Zc Tryz.prog 78 c56) (q3:Zc Tryz.prog 82 c83) (q4:Zc Tryz.prog 83 c84) (q6:Zc Tryz.prog 80 c79) (q0:Zc Tryz.prog 84 c80) (q5:Zc Tryz.prog 85 c82) (q1:Zc Tryz.prog 81 c66):Zc Tryz.prog 38 c85:=by
 refine Zg YO (Ze q7 (Ze q2 (Ze q3 (Ze q4 (Ze q6 (Ze q0 (Ze q5 (Ze q1 Zj)))))))) mixed {draws:=[(5,[0,1,3,0,0,16,56,120,248,0,512,2047,4095,8191],.op 0 (.op 1 (.op 2 (.op 3 (.op 4 (.op 5 (.op 6 (.op 7 (.op 8 (.op 9 (.op 10 (.op 11 (.op 12 (.alt 13 (.done) (.done))))))))))))))),(13,[0,1,0,0,8,28,60,0,128,511],.op 0 (.op 1 (.op 2 (.op 3 (.op 4 (.op 5 (.op 6 (.op 7 (.op 8 (.alt 9 (.done) (.done))))))))))),(16,[0,1,0,4,0,16,48,127,255],.op 0 (.op 1 (.op 2 (.op 3 (.op 4 (.op 5 (.alt 6 (.op 7 (.alt 8 (.done) (.done))) (.done))))))))]} (fn:=Tryz.f38) Tryz.func38 (by kernel_rfl) (by kernel_rfl) ?_
 rintro ⟨a0,a1,⟨⟩⟩ K ⟨r,h,hK⟩
 change Zae a0 a1=some r at h
 unfold Zae at h
 conv=>whnf
 refine Zl h (fun l07Own0 hb0 h=>?_)
 conv=>whnf
 intro fp1
 conv=>whnf
 intro fp2
 conv=>whnf
 intro fp3
 conv=>whnf
 refine Zl h (fun l05Places0 hb4 h=>?_)
 conv=>whnf
 refine Zz h (fun h=>?_) (fun h=>?_)
 conv=>whnf
 refine ⟨by kernel_rfl,?_⟩
 conv=>whnf
 refine vAt h (fun x0 he5a he5b he5x h=>?_)
 conv=>whnf
 refine ⟨by kernel_rfl,?_⟩
 conv=>whnf
 refine ⟨he5a,he5b,Zp he5x ?_⟩
 conv=>whnf
 refine vAt h (fun x1 he6a he6b he6x h=>?_)
 conv=>whnf
 refine ⟨he6a,he6b,Zp he6x ?_⟩
 conv=>whnf
 intro fp7
 conv=>whnf
 refine ⟨trivial,?_⟩
 conv=>whnf
 cases h
 exact hK
 conv=>whnf
 refine Zz h (fun h=>?_) (fun h=>?_)
 conv=>whnf
 refine Zl h (fun l08Insert0 hb8 h=>?_)
 conv=>whnf
 intro fp9
 conv=>whnf
 intro fp10
 conv=>whnf
 intro fp11
 conv=>whnf
 cases h
 exact hK
 conv=>whnf
 refine Zz h (fun h=>?_) (fun h=>?_)
 conv=>whnf
 refine Zl h (fun l08Remove0 hb12 h=>?_)
 conv=>whnf
 intro fp13
 conv=>whnf
 intro fp14
 conv=>whnf
 intro fp15
 conv=>whnf
 cases h
 exact hK
 conv=>whnf
 refine Zz h (fun h=>?_) (fun h=>?_)
 conv=>whnf
 refine Zl h (fun l08Nodes0 hb16 h=>?_)
 conv=>whnf
 refine vAt h (fun x0 he17a he17b he17x h=>?_)
 conv=>whnf
 refine ⟨by kernel_rfl,?_⟩
 conv=>whnf
 refine ⟨by decide,?_⟩
 conv=>whnf
 refine ⟨he17a,he17b,Zp he17x ?_⟩
 conv=>whnf
 refine ⟨by kernel_rfl,?_⟩
 conv=>whnf
 refine vAt h (fun x1 he18a he18b he18x h=>?_)
 conv=>whnf
 refine ⟨by kernel_rfl,?_⟩
 conv=>whnf
 refine ⟨he18a,he18b,Zp he18x ?_⟩
 conv=>whnf
 refine Zl h (fun l08Connect0 hb19 h=>?_)
 conv=>whnf
 intro fp20
 conv=>whnf
 refine ⟨trivial,?_⟩
 conv=>whnf
 refine Zl h (fun l08Attach0 hb21 h=>?_)
 conv=>whnf
 intro fp22
 conv=>whnf
 intro fp23
 conv=>whnf
 intro fp24
 conv=>whnf
 cases h
 exact hK
 conv=>whnf
 refine Zz h (fun h=>?_) (fun h=>?_)
 conv=>whnf
 refine ⟨by kernel_rfl,?_⟩
 conv=>whnf
 refine Zl h (fun l07OwnWire0 hb25 h=>?_)
 conv=>whnf
 refine vAt h (fun x0 he26a he26b he26x h=>?_)
 conv=>whnf
 refine ⟨he26a,he26b,Zp he26x ?_⟩
 conv=>whnf
 intro fp27
 conv=>whnf
 refine ⟨trivial,?_⟩
 conv=>whnf
 cases h
 exact hK
 conv=>whnf
 cases h
 exact hK
theorem w71:Zc Tryz.prog 123 c71:=by
 refine Zg Zr Zj mixed {} (fn:=Tryz.f123) Tryz.func123 (by kernel_rfl) (by kernel_rfl) ?_
 rintro ⟨c0,⟨⟩⟩ K ⟨r,h,hK⟩
 change Zau c0=some r at h
 unfold Zau at h
 conv=>whnf
 refine Zz h (fun h=>?_) (fun h=>?_)
 conv=>whnf
 cases h
 exact hK
 conv=>whnf
 cases h
 exact hK
end Go.Proofs.YtehkanadahncgaaGreatDoor
