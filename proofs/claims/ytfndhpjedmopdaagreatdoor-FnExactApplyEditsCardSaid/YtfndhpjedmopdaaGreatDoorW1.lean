/-
  The functions keep their contracts, if what they call does. Printed by program.
-/
import Derived.Test.YtfndhpjedmopdaaGreatDoorM
import Derived.KernelRfl
namespace Go.Proofs.YtfndhpjedmopdaaGreatDoor
open Go Go.Sx
set_option maxRecDepth 100000
set_option maxHeartbeats 3200000
set_option linter.unusedVariables false
set_option linter.unusedSimpArgs false
theorem Zz6 (q0:Zc Tryz.prog 42 c182):Zc Tryz.prog 11 c183:=by
 refine Zg YQ (Ze q0 Zj) mixed {} (fn:=Tryz.f11) Tryz.func11 (by kernel_rfl) (by kernel_rfl) ?_
 rintro ⟨b0,list0,⟨⟩⟩ K ⟨r,h,hK⟩
 change ZaZ b0 list0=some r at h
 unfold ZaZ at h
 conv=>whnf
 refine Zk h (fun applyAll0 hb0 h=>?_)
 conv=>whnf
 intro fp1
 conv=>whnf
 intro fp2
 conv=>whnf
 intro fp3
 conv=>whnf
 intro fp4
 conv=>whnf
 cases h
 exact hK
theorem ZDy (q0:Zc Tryz.prog 119 c138):Zc Tryz.prog 167 c173:=by
 refine Zg YQ (Ze q0 Zj) mixed {loops:=[(0,[.reg 13 (.dat (.int .i64)),.ent 4 (nat_lit 72) (Dp.pair (Dp.ol (2:Go.TypeId) (Dp.flat (Ty.int IntKind.i64))) (Dp.pair (Dp.ol (2:Go.TypeId) (Dp.flat (Ty.int IntKind.i64))) (Dp.pair (Dp.ol (2:Go.TypeId) (Dp.flat (Ty.int IntKind.i64))) (Dp.pair (Dp.ol (2:Go.TypeId) (Dp.flat (Ty.int IntKind.i64))) (Dp.flat Ty.unit)))))]),(2,[.reg 30 (.dat (.int .i64)),.ent 4 (nat_lit 72) (Dp.pair (Dp.ol (2:Go.TypeId) (Dp.flat (Ty.int IntKind.i64))) (Dp.pair (Dp.ol (2:Go.TypeId) (Dp.flat (Ty.int IntKind.i64))) (Dp.pair (Dp.ol (2:Go.TypeId) (Dp.flat (Ty.int IntKind.i64))) (Dp.pair (Dp.ol (2:Go.TypeId) (Dp.flat (Ty.int IntKind.i64))) (Dp.flat Ty.unit)))))])],draws:=[(9,[0,1,3,7,0,16,63,127],.op 0 (.op 1 (.op 2 (.op 3 (.op 4 (.op 5 (.op 6 (.op 7 (.done))))))))),(10,[0,0,2,6,14,0,0,64,0,256,960,2016,4064,8190,16383,32767,65535],.op 0 (.op 1 (.op 2 (.op 3 (.op 5 (.op 6 (.op 7 (.op 8 (.op 9 (.op 10 (.alt 4 (.alt 11 (.alt 12 (.alt 13 (.op 14 (.op 15 (.alt 16 (.done) (.done)))) (.done)) (.done)) (.done)) (.alt 11 (.alt 4 (.alt 12 (.alt 13 (.op 14 (.op 15 (.alt 16 (.done) (.done)))) (.done)) (.done)) (.alt 12 (.alt 4 (.alt 13 (.op 14 (.op 15 (.alt 16 (.done) (.done)))) (.done)) (.done)) (.done))) (.done)))))))))))))]} (fn:=Tryz.f167) Tryz.func167 (by kernel_rfl) (by kernel_rfl) ?_
 rintro ⟨b0,nodes0,⟨⟩⟩ K ⟨r,h,hK⟩
 change Xm b0 nodes0=some r at h
 unfold Xm at h
 conv=>whnf
 intro fp0
 conv=>whnf
 intro fp1
 conv=>whnf
 intro fp2
 conv=>whnf
 refine Yk h ?_
 rintro I3 μ3 ⟨v0,l0,⟨⟩⟩ zs3 h hI3 hR3
 change Xt b0 nodes0 v0 l0=some zs3 at h
 unfold Xt at h
 conv=>whnf
 intro fp4
 conv=>whnf
 refine Zx h (fun h=>?_) (fun h=>?_)
 conv=>whnf
 refine vAt h (fun x0 he5a he5b he5x h=>?_)
 conv=>whnf
 refine ⟨he5a,he5b,Zo he5x ?_⟩
 conv=>whnf
 intro fp6
 conv=>whnf
 cases h
 exact ⟨⟨rfl,rfl⟩,hI3 _ rfl⟩
 conv=>whnf
 refine Zk h (fun places0 hb7 h=>?_)
 conv=>whnf
 refine Yk h ?_
 rintro I8 μ8 ⟨v1,l1,⟨⟩⟩ zs8 h hI8 hR8
 change Qy b0 nodes0 places0 v1 l1=some zs8 at h
 unfold Qy at h
 conv=>whnf
 intro fp9
 conv=>whnf
 refine Zx h (fun h=>?_) (fun h=>?_)
 conv=>whnf
 refine vAt h (fun x0 he10a he10b he10x h=>?_)
 conv=>whnf
 refine ⟨by kernel_rfl,?_⟩
 conv=>whnf
 refine ⟨he10a,he10b,Zo he10x ?_⟩
 conv=>whnf
 refine Z5 ?_
 refine YJ h (fun h=>?_) (fun h=>?_)
 conv=>whnf
 cases h
 exact ⟨⟨rfl,rfl⟩,hI8 _ rfl⟩
 focus
  conv=>whnf
  refine ⟨by kernel_rfl,?_⟩
  conv=>whnf
  refine vAt h (fun x1 he11a he11b he11x h=>?_)
  conv=>whnf
  refine ⟨trivial,?_⟩
  conv=>whnf
  refine ⟨by kernel_rfl,?_⟩
  conv=>whnf
  obtain ⟨hp13,h⟩:=guardE h
  refine ⟨?_,?_⟩
  rotate_left
  focus
   conv=>whnf
   refine ⟨?_,?_⟩
   rotate_left
   focus
    conv=>whnf
    refine ⟨he11a,he11b,Zo he11x ?_⟩
    conv=>whnf
    intro fp14
    conv=>whnf
    refine ⟨hp13,?_⟩
    conv=>whnf
    refine .inl ⟨rfl,?_⟩
    conv=>whnf
    refine ⟨trivial,?_⟩
   rotate_right
   focus
    conv=>whnf
    refine ⟨he11a,he11b,Zo he11x ?_⟩
    conv=>whnf
    intro fp14
    conv=>whnf
    refine ⟨hp13,?_⟩
    conv=>whnf
    refine .inl ⟨rfl,?_⟩
    conv=>whnf
    refine ⟨trivial,?_⟩
  rotate_right
  focus
   conv=>whnf
   refine ⟨he11a,he11b,Zo he11x ?_⟩
   conv=>whnf
   intro fp14
   conv=>whnf
   refine ⟨hp13,?_⟩
   conv=>whnf
   refine .inl ⟨rfl,?_⟩
   conv=>whnf
   refine ⟨trivial,?_⟩
  all_goals
   conv=>whnf
   cases h
   exact ⟨⟨rfl,rfl⟩,hI8 _ rfl⟩
 conv=>whnf
 cases h
 obtain rfl:=hR8 _ rfl
 obtain rfl:=hR3 _ rfl
 exact hK
theorem ZCT (q1:Zc Tryz.prog 300 Zzf) (q0:Zc Tryz.prog 301 c117):Zc Tryz.prog 276 Zy9:=by
 refine Zg Zq (Ze q1 (Ze q0 Zj)) mixed {loops:=[(0,[.reg 8 (.dat (.int .i64))])]} (fn:=Tryz.f276) Tryz.func276 (by kernel_rfl) (by kernel_rfl) ?_
 rintro ⟨c0,⟨⟩⟩ K ⟨r,h,hK⟩
 change JD c0=some r at h
 unfold JD at h
 conv=>whnf
 refine Yk h ?_
 rintro I0 μ0 ⟨v0,⟨⟩⟩ zs0 h hI0 hR0
 change QV c0 v0=some zs0 at h
 unfold QV at h
 conv=>whnf
 refine Zx h (fun h=>?_) (fun h=>?_)
 conv=>whnf
 refine vAt h (fun x0 he1a he1b he1x h=>?_)
 conv=>whnf
 refine Zk h (fun isArc0 hb2 h=>?_)
 conv=>whnf
 refine Ze5 ?_
 refine YJ h (fun h=>?_) (fun h=>?_)
 conv=>whnf
 refine ⟨by decide,?_⟩
 conv=>whnf
 refine QJ h (fun hp3 h=>?_)
 conv=>whnf
 refine QJ h (fun hp4 h=>?_)
 conv=>whnf
 refine Zk h (fun c1_0 hb5 h=>?_)
 conv=>whnf
 refine YJ h (fun h=>?_) (fun h=>?_)
 conv=>whnf
 cases h
 obtain rfl:=hR0 _ rfl
 exact hK
 conv=>whnf
 cases h
 exact ⟨⟨rfl,rfl⟩,hI0 _ rfl⟩
 conv=>whnf
 cases h
 obtain rfl:=hR0 _ rfl
 exact hK
 conv=>whnf
 cases h
 obtain rfl:=hR0 _ rfl
 exact hK
theorem ZAk (q4:Zc Tryz.prog 313 c95) (q3:Zc Tryz.prog 314 ZyJ) (q2:Zc Tryz.prog 315 Zx7) (q0:Zc Tryz.prog 316 ZxV) (q1:Zc Tryz.prog 303 ZwQ) (q5:Zc Tryz.prog 209 c88):Zc Tryz.prog 300 Zzf:=by
 refine Zg Zq (Ze q4 (Ze q3 (Ze q2 (Ze q0 (Ze q1 (Ze q5 Zj)))))) mixed {draws:=[(2,[0,1,3,7,15,31,63,127,255,511,1023,2047,4095,8191,16383,32767,65535,32767,163839,524287,1048575,2097151,4194303,8388607,16777215,33554431,67108863,134217727,134217727,402653183,1073741823,2147483647,4294967295,8589934591,17179869183,8589934591,42949672959,137438953471,274877906943,549755813887],.op 0 (.op 1 (.op 2 (.op 3 (.op 4 (.op 5 (.op 6 (.op 7 (.op 8 (.op 9 (.op 10 (.op 11 (.alt 12 (.op 13 (.op 14 (.op 15 (.op 16 (.op 17 (.alt 18 (.op 19 (.op 20 (.op 21 (.op 22 (.op 23 (.op 24 (.op 25 (.op 26 (.op 27 (.op 28 (.op 29 (.alt 30 (.op 31 (.op 32 (.op 33 (.op 34 (.op 35 (.op 36 (.op 37 (.op 38 (.op 39 (.done)))))))))) (.done))))))))))))) (.done))))))) (.done)))))))))))))),(3,[0,1,3,7,15,31,63,127,255,511,1023,2047,4095,2047,10239,32767,65535,131071,262143,262143,786431,2097151,4194303,8388607],.op 0 (.op 1 (.alt 2 (.op 3 (.op 4 (.op 5 (.op 6 (.alt 7 (.op 8 (.op 9 (.op 10 (.op 11 (.op 12 (.op 13 (.alt 14 (.op 15 (.op 16 (.op 17 (.op 18 (.op 19 (.op 20 (.alt 21 (.op 22 (.op 23 (.done))) (.done)))))))) (.done)))))))) (.done)))))) (.done))))]} (fn:=Tryz.f300) Tryz.func300 (by kernel_rfl) (by kernel_rfl) ?_
 rintro ⟨a0,a1,⟨⟩⟩ K ⟨r,h,hK⟩
 change Za3 a0 a1=some r at h
 unfold Za3 at h
 conv=>whnf
 refine Zk h (fun isCheck0 hb0 h=>?_)
 conv=>whnf
 refine YJ h (fun h=>?_) (fun h=>?_)
 conv=>whnf
 refine ⟨by kernel_rfl,?_⟩
 conv=>whnf
 refine Zx h (fun h=>?_) (fun h=>?_)
 conv=>whnf
 refine Zx h (fun h=>?_) (fun h=>?_)
 conv=>whnf
 refine Zk h (fun areTables0 hb1 h=>?_)
 conv=>whnf
 refine YJ h (fun h=>?_) (fun h=>?_)
 conv=>whnf
 refine Zk h (fun clock0 hb2 h=>?_)
 conv=>whnf
 refine Zx h (fun h=>?_) (fun h=>?_)
 conv=>whnf
 refine Zx h (fun h=>?_) (fun h=>?_)
 conv=>whnf
 refine Zk h (fun isInput0 hb3 h=>?_)
 conv=>whnf
 refine YJ h (fun h=>?_) (fun h=>?_)
 conv=>whnf
 refine ⟨trivial,?_⟩
 conv=>whnf
 cases h
 exact hK
 conv=>whnf
 refine ⟨trivial,?_⟩
 conv=>whnf
 cases h
 exact hK
 conv=>whnf
 refine ⟨trivial,?_⟩
 conv=>whnf
 cases h
 exact hK
 conv=>whnf
 refine ⟨trivial,?_⟩
 conv=>whnf
 cases h
 exact hK
 conv=>whnf
 refine ⟨trivial,?_⟩
 conv=>whnf
 cases h
 exact hK
 conv=>whnf
 refine ⟨trivial,?_⟩
 conv=>whnf
 cases h
 exact hK
 conv=>whnf
 refine ⟨trivial,?_⟩
 conv=>whnf
 cases h
 exact hK
 conv=>whnf
 refine ⟨by kernel_rfl,?_⟩
 conv=>whnf
 refine Zk h (fun areTables0 hb4 h=>?_)
 conv=>whnf
 refine Ze5 ?_
 refine YJ h (fun h=>?_) (fun h=>?_)
 conv=>whnf
 refine Zk h (fun areTables1 hb5 h=>?_)
 conv=>whnf
 refine Ze5 ?_
 refine YJ h (fun h=>?_) (fun h=>?_)
 conv=>whnf
 refine Zk h (fun output0 hb6 h=>?_)
 conv=>whnf
 refine Ze5 ?_
 refine Zx h (fun h=>?_) (fun h=>?_)
 conv=>whnf
 refine Zk h (fun isInput0 hb7 h=>?_)
 conv=>whnf
 refine ⟨trivial,?_⟩
 conv=>whnf
 refine Z5 ?_
 refine YJ h (fun h=>?_) (fun h=>?_)
 conv=>whnf
 refine Zx h (fun h=>?_) (fun h=>?_)
 conv=>whnf
 refine vAt h (fun x0 he8a he8b he8x h=>?_)
 conv=>whnf
 refine Z5 ?_
 refine YJ h (fun h=>?_) (fun h=>?_)
 conv=>whnf
 cases h
 exact hK
 conv=>whnf
 refine Zk h (fun within0 hb9 h=>?_)
 conv=>whnf
 cases h
 exact hK
 conv=>whnf
 refine Zx h (fun h=>?_) (fun h=>?_)
 conv=>whnf
 refine Zx h (fun h=>?_) (fun h=>?_)
 conv=>whnf
 refine vAt h (fun x0 he10a he10b he10x h=>?_)
 conv=>whnf
 refine YJ h (fun h=>?_) (fun h=>?_)
 conv=>whnf
 cases h
 exact hK
 conv=>whnf
 cases h
 exact hK
 conv=>whnf
 cases h
 exact hK
 conv=>whnf
 refine Zx h (fun h=>?_) (fun h=>?_)
 conv=>whnf
 refine vAt h (fun x0 he11a he11b he11x h=>?_)
 conv=>whnf
 refine YJ h (fun h=>?_) (fun h=>?_)
 conv=>whnf
 cases h
 exact hK
 conv=>whnf
 cases h
 exact hK
 conv=>whnf
 cases h
 exact hK
 conv=>whnf
 cases h
 exact hK
 conv=>whnf
 refine ⟨trivial,?_⟩
 conv=>whnf
 cases h
 exact hK
 conv=>whnf
 refine ⟨trivial,?_⟩
 conv=>whnf
 cases h
 exact hK
 conv=>whnf
 refine ⟨trivial,?_⟩
 conv=>whnf
 cases h
 exact hK
theorem ZCO (q0:Zc Tryz.prog 215 Zx4) (q2:Zc Tryz.prog 216 c148) (q1:Zc Tryz.prog 217 Zyl) (q3:Zc Tryz.prog 184 c143):Zc Tryz.prog 158 Zzt:=by
 refine Zg YQ (Ze q0 (Ze q2 (Ze q1 (Ze q3 Zj)))) mixed {loops:=[(0,[.reg 19 (.dat (.int .i64)),.splt 1300 169 (ZaY)])],draws:=[(1,[0,1,3,0,8,31,0,64,255,511,0,2047],.op 0 (.op 1 (.op 3 (.op 4 (.op 6 (.op 7 (.alt 2 (.alt 5 (.alt 8 (.op 9 (.alt 10 (.alt 11 (.done) (.done)) (.done))) (.alt 10 (.alt 8 (.op 9 (.alt 11 (.done) (.done))) (.done)) (.done))) (.alt 10 (.alt 5 (.alt 8 (.op 9 (.alt 11 (.done) (.done))) (.done)) (.done)) (.done))) (.alt 10 (.alt 2 (.alt 5 (.alt 8 (.op 9 (.alt 11 (.done) (.done))) (.done)) (.done)) (.done)) (.done))))))))),(5,[0,1,0,0,8,24,63,127,255],.op 0 (.op 1 (.op 2 (.op 3 (.op 4 (.alt 5 (.op 6 (.op 7 (.alt 8 (.done) (.done)))) (.done)))))))]} (fn:=Tryz.f158) Tryz.func158 (by kernel_rfl) (by kernel_rfl) ?_
 rintro ⟨d0,⟨⟩⟩ K ⟨r,h,hK⟩
 change JN d0=some r at h
 unfold JN at h
 focus
  conv=>whnf
  refine ⟨by kernel_rfl,?_⟩
  conv=>whnf
  obtain ⟨Instance0,hb0,h⟩:=Option.bind_eq_some_iff.1 h
  obtain ⟨string0,hb1,h⟩:=Option.bind_eq_some_iff.1 h
  obtain ⟨Port0,hb2,h⟩:=Option.bind_eq_some_iff.1 h
  refine ⟨?_,?_⟩
  rotate_left
  focus
   conv=>whnf
   refine ⟨_,hb0,?_⟩
   conv=>whnf
   refine ⟨_,hb1,?_⟩
   conv=>whnf
   refine ⟨_,hb2,?_⟩
   conv=>whnf
   refine ⟨trivial,?_⟩
  rotate_right
  focus
   conv=>whnf
   refine ⟨_,hb0,?_⟩
   conv=>whnf
   refine ⟨?_,?_⟩
   rotate_left
   focus
    conv=>whnf
    refine ⟨_,hb1,?_⟩
    conv=>whnf
    refine ⟨_,hb2,?_⟩
    conv=>whnf
    refine ⟨trivial,?_⟩
   rotate_right
   focus
    conv=>whnf
    refine ⟨_,hb1,?_⟩
    conv=>whnf
    refine ⟨?_,?_⟩
    rotate_left
    focus
     conv=>whnf
     refine ⟨_,hb2,?_⟩
     conv=>whnf
     refine ⟨trivial,?_⟩
    rotate_right
    focus
     conv=>whnf
     refine ⟨_,hb2,?_⟩
     conv=>whnf
     refine ⟨trivial,?_⟩
  all_goals
   conv=>whnf
   refine Yk h ?_
   rintro I3 μ3 ⟨v0,l0,⟨⟩⟩ zs3 h hI3 hR3
   change QZ Instance0 string0 Port0 v0 l0=some zs3 at h
   unfold QZ at h
   conv=>whnf
   intro fp4
   conv=>whnf
   refine Zx h (fun h=>?_) (fun h=>?_)
   conv=>whnf
   refine vAt h (fun x0 he5a he5b he5x h=>?_)
   conv=>whnf
   refine QJ h (fun hp6 h=>?_)
   conv=>whnf
   refine ⟨he5a,he5b,Zo he5x ?_⟩
   conv=>whnf
   refine ⟨by kernel_rfl,?_⟩
   conv=>whnf
   refine Zk h (fun int64_0 hb7 h=>?_)
   conv=>whnf
   refine ⟨he5a,he5b,Zo he5x ?_⟩
   conv=>whnf
   refine QJ h (fun hp8 h=>?_)
   conv=>whnf
   refine vAt h (fun x1 he9a he9b he9x h=>?_)
   conv=>whnf
   refine ⟨trivial,?_⟩
   conv=>whnf
   cases h
   exact ⟨⟨rfl,rfl⟩,hI3 _ rfl⟩
   conv=>whnf
   refine QJ h (fun hp10 h=>?_)
   conv=>whnf
   cases h
   obtain rfl:=hR3 _ rfl
   exact hK
theorem ZBO (q0:Zc Tryz.prog 206 ZwC):Zc Tryz.prog 248 c130:=by
 refine Zg Zq (Ze q0 Zj) mixed {} (fn:=Tryz.f248) Tryz.func248 (by kernel_rfl) (by kernel_rfl) ?_
 rintro ⟨net0,a0,⟨⟩⟩ K ⟨r,h,hK⟩
 change YV net0 a0=some r at h
 unfold YV at h
 conv=>whnf
 refine Zk h (fun isNet0 hb0 h=>?_)
 conv=>whnf
 cases h
 exact hK
theorem ZAa (q0:Zc Tryz.prog 119 c138):Zc Tryz.prog 185 c171:=by
 refine Zg Zq (Ze q0 Zj) mixed {loops:=[(0,[.reg 5 (.own (.ol 2 (.flat (.int .i64)))),.reg 11 (.dat (.int .i64))])]} (fn:=Tryz.f185) Tryz.func185 (by kernel_rfl) (by kernel_rfl) ?_
 rintro ⟨d0,net0,⟨⟩⟩ K ⟨r,h,hK⟩
 change JH d0 net0=some r at h
 unfold JH at h
 conv=>whnf
 refine Zk h (fun places0 hb0 h=>?_)
 conv=>whnf
 refine Yk h ?_
 rintro I1 μ1 ⟨list0,v0,⟨⟩⟩ zs1 h hI1 hR1
 change QU net0 places0 list0 v0=some zs1 at h
 unfold QU at h
 conv=>whnf
 refine Zx h (fun h=>?_) (fun h=>?_)
 conv=>whnf
 refine vAt h (fun x0 he2a he2b he2x h=>?_)
 conv=>whnf
 refine ⟨by kernel_rfl,?_⟩
 conv=>whnf
 refine ⟨he2a,he2b,Zo he2x ?_⟩
 conv=>whnf
 refine Zx h (fun h=>?_) (fun h=>?_)
 conv=>whnf
 refine Z5 ?_
 refine YJ h (fun h=>?_) (fun h=>?_)
 conv=>whnf
 cases h
 exact ⟨⟨rfl,rfl⟩,hI1 _ rfl⟩
 conv=>whnf
 refine QJ h (fun hp3 h=>?_)
 conv=>whnf
 cases h
 exact ⟨⟨rfl,rfl⟩,hI1 _ rfl⟩
 conv=>whnf
 cases h
 exact ⟨⟨rfl,rfl⟩,hI1 _ rfl⟩
 conv=>whnf
 cases h
 obtain rfl:=hR1 _ rfl
 exact hK
theorem ZDQ (q0:Zc Tryz.prog 212 Zy3) (q2:Zc Tryz.prog 184 c143) (q1:Zc Tryz.prog 213 Zyz) (q3:Zc Tryz.prog 214 c145):Zc Tryz.prog 157 c146:=by
 refine Zg YQ (Ze q0 (Ze q2 (Ze q1 (Ze q3 Zj)))) mixed {loops:=[(0,[.reg 11 (.dat (.int .i64)),.cello 1003 0 (.ol 207 (Zka))]),(2,[.reg 30 (.dat (.int .i64)),.splt 7 235 Zrh])],draws:=[(5,[0,1,3,0,8,31,31,127,255,511],.op 0 (.op 1 (.op 3 (.op 4 (.alt 2 (.op 6 (.alt 5 (.alt 7 (.op 8 (.alt 9 (.done) (.done))) (.done)) (.done))) (.done)))))),(10,[0,1,0,0,8,0,0,64,192,0,512,1984,4039,8135,16327,32767,65535,131071],.op 0 (.op 1 (.op 2 (.op 3 (.op 5 (.op 6 (.op 7 (.op 9 (.op 10 (.alt 4 (.alt 8 (.alt 11 (.op 12 (.op 13 (.alt 14 (.op 15 (.op 16 (.alt 17 (.done) (.done)))) (.done)))) (.done)) (.done)) (.alt 8 (.alt 4 (.alt 11 (.op 12 (.op 13 (.alt 14 (.op 15 (.op 16 (.alt 17 (.done) (.done)))) (.done)))) (.done)) (.alt 11 (.op 12 (.op 13 (.alt 4 (.alt 14 (.op 15 (.op 16 (.alt 17 (.done) (.done)))) (.done)) (.alt 14 (.alt 4 (.op 15 (.op 16 (.alt 17 (.done) (.done)))) (.done)) (.done))))) (.done))) (.done))))))))))))]} (fn:=Tryz.f157) Tryz.func157 (by kernel_rfl) (by kernel_rfl) ?_
 rintro ⟨l0,⟨⟩⟩ K ⟨r,h,hK⟩
 change JM l0=some r at h
 unfold JM at h
 conv=>whnf
 refine Yk h ?_
 rintro I0 μ0 ⟨v0,c0,⟨⟩⟩ zs0 h hI0 hR0
 change XB l0 v0 c0=some zs0 at h
 unfold XB at h
 conv=>whnf
 intro fp1
 conv=>whnf
 refine Zx h (fun h=>?_) (fun h=>?_)
 conv=>whnf
 refine vAt h (fun x0 he2a he2b he2x h=>?_)
 conv=>whnf
 refine ⟨by kernel_rfl,?_⟩
 conv=>whnf
 refine Zk h (fun Pin0 hb3 h=>?_)
 conv=>whnf
 refine Zk h (fun int64_0 hb4 h=>?_)
 conv=>whnf
 refine ⟨trivial,?_⟩
 conv=>whnf
 refine Zk h (fun Arc0 hb5 h=>?_)
 conv=>whnf
 refine Yk h ?_
 rintro I6 μ6 ⟨v1,l1,⟨⟩⟩ zs6 h hI6 hR6
 change QT v0 c0 x0 Pin0 int64_0 Arc0 v1 l1=some zs6 at h
 unfold QT at h
 conv=>whnf
 intro fp7
 conv=>whnf
 refine Zx h (fun h=>?_) (fun h=>?_)
 focus
  conv=>whnf
  refine vAt h (fun x1 he8a he8b he8x h=>?_)
  conv=>whnf
  refine QJ h (fun hp9 h=>?_)
  conv=>whnf
  refine ⟨he8a,he8b,Zo he8x ?_⟩
  conv=>whnf
  refine ⟨by kernel_rfl,?_⟩
  conv=>whnf
  obtain ⟨cloneTables0,hb10,h⟩:=Option.bind_eq_some_iff.1 h
  obtain ⟨cloneTables1,hb12,h⟩:=Option.bind_eq_some_iff.1 h
  obtain ⟨hp14,h⟩:=guardE h
  obtain ⟨x2,he15a,he15b,he15x,h⟩:=atE h
  refine ⟨?_,?_⟩
  rotate_left
  focus
   conv=>whnf
   refine ⟨_,hb10,?_⟩
   conv=>whnf
   intro fp16
   conv=>whnf
   refine ⟨?_,?_⟩
   rotate_left
   focus
    conv=>whnf
    refine ⟨_,hb12,?_⟩
    conv=>whnf
    intro fp17
    conv=>whnf
    refine ⟨he8a,he8b,Zo he8x ?_⟩
    conv=>whnf
    refine ⟨?_,?_⟩
    rotate_left
    focus
     conv=>whnf
     refine ⟨hp14,?_⟩
     conv=>whnf
     refine ⟨he15a,he15b,Zo he15x ?_⟩
     conv=>whnf
     refine ⟨he8a,he8b,Zo he8x ?_⟩
     conv=>whnf
     refine ⟨hp14,?_⟩
     conv=>whnf
     refine ⟨trivial,?_⟩
    rotate_right
    focus
     conv=>whnf
     refine ⟨hp14,?_⟩
     conv=>whnf
     refine ⟨he15a,he15b,Zo he15x ?_⟩
     conv=>whnf
     refine ⟨he8a,he8b,Zo he8x ?_⟩
     conv=>whnf
     refine ⟨hp14,?_⟩
     conv=>whnf
     refine ⟨trivial,?_⟩
   rotate_right
   focus
    conv=>whnf
    refine ⟨_,hb12,?_⟩
    conv=>whnf
    intro fp17
    conv=>whnf
    refine ⟨he8a,he8b,Zo he8x ?_⟩
    conv=>whnf
    refine ⟨hp14,?_⟩
    conv=>whnf
    refine ⟨he15a,he15b,Zo he15x ?_⟩
    conv=>whnf
    refine ⟨he8a,he8b,Zo he8x ?_⟩
    conv=>whnf
    refine ⟨hp14,?_⟩
    conv=>whnf
    refine ⟨trivial,?_⟩
  rotate_right
  focus
   conv=>whnf
   refine ⟨_,hb10,?_⟩
   conv=>whnf
   intro fp16
   conv=>whnf
   refine ⟨_,hb12,?_⟩
   conv=>whnf
   intro fp17
   conv=>whnf
   refine ⟨he8a,he8b,Zo he8x ?_⟩
   conv=>whnf
   refine ⟨hp14,?_⟩
   conv=>whnf
   refine ⟨he15a,he15b,Zo he15x ?_⟩
   conv=>whnf
   refine ⟨he8a,he8b,Zo he8x ?_⟩
   conv=>whnf
   refine ⟨hp14,?_⟩
   conv=>whnf
   refine ⟨trivial,?_⟩
  all_goals
   conv=>whnf
   cases h
   exact ⟨⟨rfl,rfl⟩,hI6 _ rfl⟩
 conv=>whnf
 refine QJ h (fun hp18 h=>?_)
 conv=>whnf
 intro fp19
 conv=>whnf
 refine QJ h (fun hp20 h=>?_)
 conv=>whnf
 intro fp21
 conv=>whnf
 cases h
 obtain rfl:=hR6 _ rfl
 exact ⟨⟨rfl,rfl⟩,hI0 _ rfl⟩
 conv=>whnf
 cases h
 obtain rfl:=hR0 _ rfl
 exact hK
theorem ZDE (q0:Zc Tryz.prog 184 c143):Zc Tryz.prog 214 c145:=by
 refine Zg YQ (Ze q0 Zj) mixed {loops:=[(0,[.reg 3 (.own (.ol 290 (ZeY))),.reg 8 (.dat (.int .i64))])],draws:=[(5,[0,0,2,6,0,16,62,0,128,510,1022,2046,4095,8191],.op 0 (.op 1 (.op 2 (.op 4 (.op 5 (.op 7 (.op 8 (.alt 3 (.alt 6 (.alt 9 (.op 10 (.alt 11 (.alt 12 (.op 13 (.done)) (.done)) (.done))) (.done)) (.done)) (.done)))))))))]} (fn:=Tryz.f214) Tryz.func214 (by kernel_rfl) (by kernel_rfl) ?_
 rintro ⟨list0,⟨⟩⟩ K ⟨r,h,hK⟩
 change Jc list0=some r at h
 unfold Jc at h
 conv=>whnf
 refine Yk h ?_
 rintro I0 μ0 ⟨out0,v0,⟨⟩⟩ zs0 h hI0 hR0
 change X3 list0 out0 v0=some zs0 at h
 unfold X3 at h
 conv=>whnf
 intro fp1
 conv=>whnf
 refine Zx h (fun h=>?_) (fun h=>?_)
 conv=>whnf
 refine vAt h (fun x0 he2a he2b he2x h=>?_)
 conv=>whnf
 refine ⟨by kernel_rfl,?_⟩
 conv=>whnf
 refine Zk h (fun int64_0 hb3 h=>?_)
 conv=>whnf
 refine Zk h (fun int64_1 hb4 h=>?_)
 conv=>whnf
 refine Zk h (fun int64_2 hb5 h=>?_)
 conv=>whnf
 intro fp6
 conv=>whnf
 refine QJ h (fun hp7 h=>?_)
 conv=>whnf
 intro fp8
 conv=>whnf
 refine ⟨trivial,?_⟩
 conv=>whnf
 cases h
 exact ⟨⟨rfl,rfl⟩,hI0 _ rfl⟩
 conv=>whnf
 cases h
 obtain rfl:=hR0 _ rfl
 exact hK
theorem ZDL:Zc Tryz.prog 334 Zze:=by
 refine Zg Zq Zj mixed {loops:=[(0,[.reg 3 (.dat (.int .i64))])],draws:=[(4,[0,0,2,7,15,0,0,96,224,511],.op 0 (.op 1 (.op 2 (.op 3 (.op 4 (.op 5 (.op 6 (.op 7 (.op 8 (.op 9 (.done)))))))))))]} (fn:=Tryz.f334) Tryz.func334 (by kernel_rfl) (by kernel_rfl) ?_
 rintro ⟨list0,⟨⟩⟩ K ⟨r,h,hK⟩
 change JJ list0=some r at h
 unfold JJ at h
 conv=>whnf
 refine Yk h ?_
 rintro I0 μ0 ⟨i0,⟨⟩⟩ zs0 h hI0 hR0
 change Y7 list0 i0=some zs0 at h
 unfold Y7 at h
 conv=>whnf
 refine Zx h (fun h=>?_) (fun h=>?_)
 conv=>whnf
 refine ⟨by kernel_rfl,?_⟩
 conv=>whnf
 refine vAt h (fun x0 he1a he1b he1x h=>?_)
 conv=>whnf
 refine vAt h (fun x1 he2a he2b he2x h=>?_)
 conv=>whnf
 refine ⟨trivial,?_⟩
 conv=>whnf
 refine Zx h (fun h=>?_) (fun h=>?_)
 conv=>whnf
 cases h
 obtain rfl:=hR0 _ rfl
 exact hK
 conv=>whnf
 cases h
 exact ⟨⟨rfl,rfl⟩,hI0 _ rfl⟩
 conv=>whnf
 cases h
 obtain rfl:=hR0 _ rfl
 exact hK
theorem ZBc:Zc Tryz.prog 191 Zzh:=by
 refine Zg Zq Zj mixed {} (fn:=Tryz.f191) Tryz.func191 (by kernel_rfl) (by kernel_rfl) ?_
 rintro ⟨list0,⟨⟩⟩ K ⟨r,h,hK⟩
 change X6 list0=some r at h
 unfold X6 at h
 conv=>whnf
 cases h
 exact hK
theorem w96:Zc Tryz.prog 121 c96:=by
 refine Zg Zq Zj mixed {} (fn:=Tryz.f121) Tryz.func121 (by kernel_rfl) (by kernel_rfl) ?_
 rintro ⟨list0,⟨⟩⟩ K ⟨r,h,hK⟩
 change YK list0=some r at h
 unfold YK at h
 conv=>whnf
 cases h
 exact hK
theorem ZCm (q0:Zc Tryz.prog 280 c154):Zc Tryz.prog 251 Zyy:=by
 refine Zg Zq (Ze q0 Zj) mixed {} (fn:=Tryz.f251) Tryz.func251 (by kernel_rfl) (by kernel_rfl) ?_
 rintro ⟨a0,b0,⟨⟩⟩ K ⟨r,h,hK⟩
 change ZcB a0 b0=some r at h
 unfold ZcB at h
 conv=>whnf
 refine Zk h (fun int64_0 hb0 h=>?_)
 conv=>whnf
 refine YJ h (fun h=>?_) (fun h=>?_)
 conv=>whnf
 refine Zk h (fun int64_1 hb1 h=>?_)
 conv=>whnf
 refine YJ h (fun h=>?_) (fun h=>?_)
 conv=>whnf
 refine Zk h (fun int64_2 hb2 h=>?_)
 conv=>whnf
 refine YJ h (fun h=>?_) (fun h=>?_)
 conv=>whnf
 refine Zk h (fun int64_3 hb3 h=>?_)
 conv=>whnf
 cases h
 exact hK
 conv=>whnf
 cases h
 exact hK
 conv=>whnf
 cases h
 exact hK
 conv=>whnf
 cases h
 exact hK
theorem ZBe (q0:Zc Tryz.prog 289 ZyP):Zc Tryz.prog 260 ZyC:=by
 refine Zg Zq (Ze q0 Zj) mixed {} (fn:=Tryz.f260) Tryz.func260 (by kernel_rfl) (by kernel_rfl) ?_
 rintro ⟨a0,b0,⟨⟩⟩ K ⟨r,h,hK⟩
 change Zel a0 b0=some r at h
 unfold Zel at h
 conv=>whnf
 refine Z5 ?_
 refine Zx h (fun h=>?_) (fun h=>?_)
 conv=>whnf
 refine Z5 ?_
 refine Zx h (fun h=>?_) (fun h=>?_)
 conv=>whnf
 refine Z5 ?_
 refine Zx h (fun h=>?_) (fun h=>?_)
 conv=>whnf
 refine Z5 ?_
 refine Zx h (fun h=>?_) (fun h=>?_)
 conv=>whnf
 refine Zk h (fun eqTableS0 hb0 h=>?_)
 conv=>whnf
 refine Z5 ?_
 refine YJ h (fun h=>?_) (fun h=>?_)
 conv=>whnf
 refine Zk h (fun eqTableS1 hb1 h=>?_)
 conv=>whnf
 refine Z5 ?_
 refine YJ h (fun h=>?_) (fun h=>?_)
 conv=>whnf
 cases h
 exact hK
 conv=>whnf
 cases h
 exact hK
 conv=>whnf
 cases h
 exact hK
 conv=>whnf
 cases h
 exact hK
 conv=>whnf
 cases h
 exact hK
 conv=>whnf
 cases h
 exact hK
 conv=>whnf
 cases h
 exact hK
theorem ZDo (q0:Zc Tryz.prog 43 c193) (q1:Zc Tryz.prog 44 Zx2) (q2:Zc Tryz.prog 45 c201):Zc Tryz.prog 12 Zy5:=by
 refine Zg Zq (Ze q0 (Ze q1 (Ze q2 Zj))) mixed {} (fn:=Tryz.f12) Tryz.func12 (by kernel_rfl) (by kernel_rfl) ?_
 rintro ⟨a0,b0,⟨⟩⟩ K ⟨r,h,hK⟩
 change Zce a0 b0=some r at h
 unfold Zce at h
 conv=>whnf
 refine Zk h (fun eqLibrary0 hb0 h=>?_)
 conv=>whnf
 refine Z5 ?_
 refine YJ h (fun h=>?_) (fun h=>?_)
 conv=>whnf
 refine Zk h (fun eqDesign0 hb1 h=>?_)
 conv=>whnf
 refine Z5 ?_
 refine YJ h (fun h=>?_) (fun h=>?_)
 conv=>whnf
 refine Zk h (fun eqWireS0 hb2 h=>?_)
 conv=>whnf
 refine Z5 ?_
 refine YJ h (fun h=>?_) (fun h=>?_)
 conv=>whnf
 cases h
 exact hK
 conv=>whnf
 cases h
 exact hK
 conv=>whnf
 cases h
 exact hK
 conv=>whnf
 cases h
 exact hK
theorem ZCn:Zc Tryz.prog 30 Zwd:=by
 refine Zg Zq Zj mixed {loops:=[(0,[.reg 5 (.dat (.int .i64))])],draws:=[(6,[0,0,3,7,0,0,48,112,255],.op 0 (.op 1 (.op 2 (.op 3 (.op 4 (.op 5 (.op 6 (.op 7 (.op 8 (.done))))))))))]} (fn:=Tryz.f30) Tryz.func30 (by kernel_rfl) (by kernel_rfl) ?_
 rintro ⟨a0,b0,⟨⟩⟩ K ⟨r,h,hK⟩
 change Xo a0 b0=some r at h
 unfold Xo at h
 conv=>whnf
 refine Z5 ?_
 refine Zx h (fun h=>?_) (fun h=>?_)
 conv=>whnf
 refine Yk h ?_
 rintro I0 μ0 ⟨i0,⟨⟩⟩ zs0 h hI0 hR0
 change Zdc a0 b0 i0=some zs0 at h
 unfold Zdc at h
 conv=>whnf
 refine Zx h (fun h=>?_) (fun h=>?_)
 conv=>whnf
 refine ⟨by kernel_rfl,?_⟩
 conv=>whnf
 refine vAt h (fun x0 he1a he1b he1x h=>?_)
 conv=>whnf
 refine vAt h (fun x1 he2a he2b he2x h=>?_)
 conv=>whnf
 refine ⟨trivial,?_⟩
 conv=>whnf
 refine Z5 ?_
 refine Zx h (fun h=>?_) (fun h=>?_)
 conv=>whnf
 cases h
 exact ⟨⟨rfl,rfl⟩,hI0 _ rfl⟩
 conv=>whnf
 cases h
 obtain rfl:=hR0 _ rfl
 exact hK
 conv=>whnf
 cases h
 obtain rfl:=hR0 _ rfl
 exact hK
 conv=>whnf
 cases h
 exact hK
theorem ZBy:Zc Tryz.prog 259 ZxQ:=by
 refine Zg Zq Zj mixed {} (fn:=Tryz.f259) Tryz.func259 (by kernel_rfl) (by kernel_rfl) ?_
 rintro ⟨a0,b0,⟨⟩⟩ K ⟨r,h,hK⟩
 change Zeo a0 b0=some r at h
 unfold Zeo at h
 conv=>whnf
 refine Z5 ?_
 refine Zx h (fun h=>?_) (fun h=>?_)
 conv=>whnf
 refine Z5 ?_
 refine Zx h (fun h=>?_) (fun h=>?_)
 conv=>whnf
 refine Z5 ?_
 refine Zx h (fun h=>?_) (fun h=>?_)
 conv=>whnf
 refine Z5 ?_
 refine YJ h (fun h=>?_) (fun h=>?_)
 conv=>whnf
 cases h
 exact hK
 conv=>whnf
 cases h
 exact hK
 conv=>whnf
 cases h
 exact hK
 conv=>whnf
 cases h
 exact hK
 conv=>whnf
 cases h
 exact hK
theorem Zz1 (q0:Zc Tryz.prog 49 ZrR):Zc Tryz.prog 173 Zx1:=by
 refine Zg Zq (Ze q0 Zj) mixed {loops:=[(0,[.reg 1 (.dat (.int .i64)),.reg 5 (.dat (.int .i64))])],draws:=[(4,[0,0,3,7,15,0,32,127],.op 0 (.op 1 (.op 2 (.op 3 (.op 4 (.op 5 (.alt 6 (.op 7 (.done)) (.done))))))))]} (fn:=Tryz.f173) Tryz.func173 (by kernel_rfl) (by kernel_rfl) ?_
 rintro ⟨a0,k0,⟨⟩⟩ K ⟨r,h,hK⟩
 change Zcw a0 k0=some r at h
 unfold Zcw at h
 conv=>whnf
 refine Yk h ?_
 rintro I0 μ0 ⟨k1,i0,⟨⟩⟩ zs0 h hI0 hR0
 change Vr a0 k1 i0=some zs0 at h
 unfold Vr at h
 conv=>whnf
 refine Zx h (fun h=>?_) (fun h=>?_)
 conv=>whnf
 refine ⟨by kernel_rfl,?_⟩
 conv=>whnf
 refine vAt h (fun x0 he1a he1b he1x h=>?_)
 conv=>whnf
 refine Zk h (fun markText0 hb2 h=>?_)
 conv=>whnf
 refine ⟨trivial,?_⟩
 conv=>whnf
 refine Z5 ?_
 refine Zx h (fun h=>?_) (fun h=>?_)
 conv=>whnf
 refine ⟨he1a,he1b,Zo he1x ?_⟩
 conv=>whnf
 refine Z5 ?_
 refine Zx h (fun h=>?_) (fun h=>?_)
 conv=>whnf
 refine ⟨he1a,he1b,Zo he1x ?_⟩
 conv=>whnf
 refine Z5 ?_
 refine Zx h (fun h=>?_) (fun h=>?_)
 conv=>whnf
 refine ⟨he1a,he1b,Zo he1x ?_⟩
 conv=>whnf
 refine ⟨by decide,?_⟩
 conv=>whnf
 refine Z5 ?_
 refine YJ h (fun h=>?_) (fun h=>?_)
 conv=>whnf
 cases h
 exact ⟨⟨rfl,rfl⟩,hI0 _ rfl⟩
 conv=>whnf
 cases h
 obtain rfl:=hR0 _ rfl
 exact hK
 conv=>whnf
 cases h
 obtain rfl:=hR0 _ rfl
 exact hK
 conv=>whnf
 cases h
 obtain rfl:=hR0 _ rfl
 exact hK
 conv=>whnf
 cases h
 obtain rfl:=hR0 _ rfl
 exact hK
 conv=>whnf
 cases h
 obtain rfl:=hR0 _ rfl
 exact hK
theorem ZBz (q1:Zc Tryz.prog 49 ZrR) (q2:Zc Tryz.prog 171 c206) (q3:Zc Tryz.prog 172 Zyr) (q0:Zc Tryz.prog 31 Zv9):Zc Tryz.prog 101 c210:=by
 refine Zg YQ (Ze q1 (Ze q2 (Ze q3 (Ze q0 Zj)))) mixed {loops:=[(0,[.reg 1 (.dat (.int .i64)),.reg 5 (.dat (.int .i64)),.ent 0 (nat_lit 207) (Dp.pair (Dp.flat Ty.str) (Dp.pair (Dp.flat (Ty.int IntKind.i64)) (Dp.pair (Dp.ol (260:Go.TypeId) (Dp.flat Je)) (Dp.pair (Dp.ol (235:Go.TypeId) Zrh) (Dp.pair (Dp.ol (2:Go.TypeId) (Dp.flat (Ty.int IntKind.i64))) (Dp.pair (Dp.flat (Ty.int IntKind.i64)) (Dp.pair (Dp.flat (Ty.int IntKind.i64)) (Dp.flat Ty.unit))))))))])]} (fn:=Tryz.f101) Tryz.func101 (by kernel_rfl) (by kernel_rfl) ?_
 rintro ⟨a0,k0,⟨⟩⟩ K ⟨r,h,hK⟩
 change Jv a0 k0=some r at h
 unfold Jv at h
 conv=>whnf
 intro fp0
 conv=>whnf
 refine Yk h ?_
 rintro I1 μ1 ⟨k1,i0,l0,⟨⟩⟩ zs1 h hI1 hR1
 change XO k1 i0 l0=some zs1 at h
 unfold XO at h
 conv=>whnf
 intro fp2
 conv=>whnf
 refine Zx h (fun h=>?_) (fun h=>?_)
 conv=>whnf
 refine Zk h (fun markText0 hb3 h=>?_)
 conv=>whnf
 refine vAt h (fun x0 he4a he4b he4x h=>?_)
 conv=>whnf
 refine ⟨he4a,he4b,Zo he4x ?_⟩
 conv=>whnf
 intro fp5
 conv=>whnf
 intro fp6
 conv=>whnf
 refine ⟨he4a,he4b,Zo he4x ?_⟩
 conv=>whnf
 refine .inl ⟨rfl,?_⟩
 conv=>whnf
 refine ⟨he4a,he4b,Zo he4x ?_⟩
 conv=>whnf
 refine .inl ⟨rfl,?_⟩
 conv=>whnf
 refine Zk h (fun markPinS0 hb7 h=>?_)
 conv=>whnf
 refine ⟨he4a,he4b,Zo he4x ?_⟩
 conv=>whnf
 refine .inl ⟨rfl,?_⟩
 conv=>whnf
 refine Zk h (fun markArcS0 hb8 h=>?_)
 conv=>whnf
 intro fp9
 conv=>whnf
 refine ⟨he4a,he4b,Zo he4x ?_⟩
 conv=>whnf
 refine .inl ⟨rfl,?_⟩
 conv=>whnf
 refine Zk h (fun markInt64S0 hb10 h=>?_)
 conv=>whnf
 refine ⟨he4a,he4b,Zo he4x ?_⟩
 conv=>whnf
 refine .inl ⟨rfl,?_⟩
 conv=>whnf
 refine ⟨he4a,he4b,Zo he4x ?_⟩
 conv=>whnf
 refine .inl ⟨rfl,?_⟩
 conv=>whnf
 cases h
 exact ⟨⟨rfl,rfl⟩,hI1 _ rfl⟩
 conv=>whnf
 cases h
 obtain rfl:=hR1 _ rfl
 exact hK
theorem ZBF (q1:Zc Tryz.prog 49 ZrR) (q0:Zc Tryz.prog 31 Zv9):Zc Tryz.prog 15 c218:=by
 refine Zg YQ (Ze q1 (Ze q0 Zj)) mixed {loops:=[(0,[.reg 1 (.dat (.int .i64)),.reg 5 (.dat (.int .i64)),.ent 0 (nat_lit 74) (Dp.pair (Dp.flat (Ty.int IntKind.i64)) (Dp.pair (Dp.flat (Ty.int IntKind.i64)) (Dp.pair (Dp.flat (Ty.int IntKind.i64)) (Dp.pair (Dp.flat (Ty.int IntKind.i64)) (Dp.pair (Dp.flat (Ty.int IntKind.i64)) (Dp.pair (Dp.flat Ty.str) (Dp.pair Zg0 (Dp.flat Ty.unit))))))))])]} (fn:=Tryz.f15) Tryz.func15 (by kernel_rfl) (by kernel_rfl) ?_
 rintro ⟨a0,a1,⟨⟩⟩ K ⟨r,h,hK⟩
 change ZbD a0 a1=some r at h
 unfold ZbD at h
 conv=>whnf
 intro fp0
 conv=>whnf
 refine Yk h ?_
 rintro I1 μ1 ⟨v0,v1,l0,⟨⟩⟩ zs1 h hI1 hR1
 change Jj v0 v1 l0=some zs1 at h
 unfold Jj at h
 conv=>whnf
 intro fp2
 conv=>whnf
 refine Zx h (fun h=>?_) (fun h=>?_)
 conv=>whnf
 refine vAt h (fun x0 he3a he3b he3x h=>?_)
 conv=>whnf
 refine ⟨he3a,he3b,Zo he3x ?_⟩
 conv=>whnf
 intro fp4
 conv=>whnf
 refine ⟨he3a,he3b,Zo he3x ?_⟩
 conv=>whnf
 refine .inl ⟨rfl,?_⟩
 conv=>whnf
 refine ⟨he3a,he3b,Zo he3x ?_⟩
 conv=>whnf
 refine .inl ⟨rfl,?_⟩
 conv=>whnf
 refine ⟨he3a,he3b,Zo he3x ?_⟩
 conv=>whnf
 refine .inl ⟨rfl,?_⟩
 conv=>whnf
 refine ⟨he3a,he3b,Zo he3x ?_⟩
 conv=>whnf
 refine .inl ⟨rfl,?_⟩
 conv=>whnf
 refine Zk h (fun markText0 hb5 h=>?_)
 conv=>whnf
 refine ⟨he3a,he3b,Zo he3x ?_⟩
 conv=>whnf
 refine .inl ⟨rfl,?_⟩
 conv=>whnf
 refine ⟨he3a,he3b,Zo he3x ?_⟩
 conv=>whnf
 refine .inl ⟨rfl,?_⟩
 conv=>whnf
 refine Zk h (fun markInt64S0 hb6 h=>?_)
 conv=>whnf
 refine ⟨he3a,he3b,Zo he3x ?_⟩
 conv=>whnf
 refine .inl ⟨rfl,?_⟩
 conv=>whnf
 refine Zk h (fun markInt64S1 hb7 h=>?_)
 conv=>whnf
 refine ⟨he3a,he3b,Zo he3x ?_⟩
 conv=>whnf
 refine .inl ⟨rfl,?_⟩
 conv=>whnf
 refine Zk h (fun markInt64S2 hb8 h=>?_)
 conv=>whnf
 refine ⟨he3a,he3b,Zo he3x ?_⟩
 conv=>whnf
 refine .inl ⟨rfl,?_⟩
 conv=>whnf
 refine Zk h (fun markInt64S3 hb9 h=>?_)
 conv=>whnf
 cases h
 exact ⟨⟨rfl,rfl⟩,hI1 _ rfl⟩
 conv=>whnf
 cases h
 obtain rfl:=hR1 _ rfl
 exact hK
theorem ZDz (q0:Zc Tryz.prog 49 ZrR):Zc Tryz.prog 171 c206:=by
 refine Zg YQ (Ze q0 Zj) mixed {loops:=[(0,[.reg 1 (.dat (.int .i64)),.reg 5 (.dat (.int .i64)),.ent 0 (nat_lit 260) (.flat Je)])]} (fn:=Tryz.f171) Tryz.func171 (by kernel_rfl) (by kernel_rfl) ?_
 rintro ⟨a0,k0,⟨⟩⟩ K ⟨r,h,hK⟩
 change ZaH a0 k0=some r at h
 unfold ZaH at h
 conv=>whnf
 refine Yk h ?_
 rintro I0 μ0 ⟨k1,i0,l0,⟨⟩⟩ zs0 h hI0 hR0
 change Qn k1 i0 l0=some zs0 at h
 unfold Qn at h
 conv=>whnf
 refine Zx h (fun h=>?_) (fun h=>?_)
 conv=>whnf
 refine Zk h (fun markText0 hb1 h=>?_)
 conv=>whnf
 refine vAt h (fun x0 he2a he2b he2x h=>?_)
 conv=>whnf
 refine ⟨by kernel_rfl,?_⟩
 conv=>whnf
 refine ⟨by decide,?_⟩
 conv=>whnf
 refine ⟨he2a,he2b,Zo he2x ?_⟩
 conv=>whnf
 refine vAt h (fun x1 he3a he3b he3x h=>?_)
 conv=>whnf
 refine ⟨by kernel_rfl,?_⟩
 conv=>whnf
 refine ⟨by decide,?_⟩
 conv=>whnf
 refine ⟨he3a,he3b,Zo he3x ?_⟩
 conv=>whnf
 refine vAt h (fun x2 he4a he4b he4x h=>?_)
 conv=>whnf
 refine ⟨by kernel_rfl,?_⟩
 conv=>whnf
 refine ⟨by decide,?_⟩
 conv=>whnf
 refine ⟨he4a,he4b,Zo he4x ?_⟩
 conv=>whnf
 refine ⟨by decide,?_⟩
 conv=>whnf
 refine vAt h (fun x3 he5a he5b he5x h=>?_)
 conv=>whnf
 refine ⟨by kernel_rfl,?_⟩
 conv=>whnf
 refine ⟨by decide,?_⟩
 conv=>whnf
 refine ⟨he5a,he5b,Zo he5x ?_⟩
 conv=>whnf
 cases h
 exact ⟨⟨rfl,rfl⟩,hI0 _ rfl⟩
 conv=>whnf
 cases h
 obtain rfl:=hR0 _ rfl
 exact hK
theorem ZBE (q0:Zc Tryz.prog 31 Zv9):Zc Tryz.prog 231 c208:=by
 refine Zg YQ (Ze q0 Zj) mixed {loops:=[(0,[.reg 1 (.dat (.int .i64)),.reg 5 (.dat (.int .i64)),.ent 0 (nat_lit 290) (Dp.pair (Dp.ol (2:Go.TypeId) (Dp.flat (Ty.int IntKind.i64))) (Dp.pair (Dp.ol (2:Go.TypeId) (Dp.flat (Ty.int IntKind.i64))) (Dp.pair (Dp.ol (2:Go.TypeId) (Dp.flat (Ty.int IntKind.i64))) (Dp.flat Ty.unit))))])]} (fn:=Tryz.f231) Tryz.func231 (by kernel_rfl) (by kernel_rfl) ?_
 rintro ⟨a0,k0,⟨⟩⟩ K ⟨r,h,hK⟩
 change Q0 a0 k0=some r at h
 unfold Q0 at h
 conv=>whnf
 intro fp0
 conv=>whnf
 refine Yk h ?_
 rintro I1 μ1 ⟨k1,i0,l0,⟨⟩⟩ zs1 h hI1 hR1
 change Xx k1 i0 l0=some zs1 at h
 unfold Xx at h
 conv=>whnf
 intro fp2
 conv=>whnf
 refine Zx h (fun h=>?_) (fun h=>?_)
 conv=>whnf
 refine vAt h (fun x0 he3a he3b he3x h=>?_)
 conv=>whnf
 refine ⟨he3a,he3b,Zo he3x ?_⟩
 conv=>whnf
 intro fp4
 conv=>whnf
 refine Zk h (fun markInt64S0 hb5 h=>?_)
 conv=>whnf
 refine ⟨he3a,he3b,Zo he3x ?_⟩
 conv=>whnf
 refine .inl ⟨rfl,?_⟩
 conv=>whnf
 refine Zk h (fun markInt64S1 hb6 h=>?_)
 conv=>whnf
 refine ⟨he3a,he3b,Zo he3x ?_⟩
 conv=>whnf
 refine .inl ⟨rfl,?_⟩
 conv=>whnf
 refine Zk h (fun markInt64S2 hb7 h=>?_)
 conv=>whnf
 cases h
 exact ⟨⟨rfl,rfl⟩,hI1 _ rfl⟩
 conv=>whnf
 cases h
 obtain rfl:=hR1 _ rfl
 exact hK
theorem Zz2:Zc Tryz.prog 49 ZrR:=by
 refine Zg Zq Zj mixed {loops:=[(0,[.reg 0 (.dat (.int .i64)),.reg 3 (.dat (.str))])]} (fn:=Tryz.f49) Tryz.func49 (by kernel_rfl) (by kernel_rfl) ?_
 rintro ⟨k0,⟨⟩⟩ K ⟨r,h,hK⟩
 change YM k0=some r at h
 unfold YM at h
 conv=>whnf
 refine Zx h (fun h=>?_) (fun h=>?_)
 conv=>whnf
 cases h
 exact hK
 conv=>whnf
 refine Yk h ?_
 rintro I0 μ0 ⟨k1,out0,⟨⟩⟩ zs0 h hI0 hR0
 change J2 k1 out0=some zs0 at h
 unfold J2 at h
 conv=>whnf
 refine Zx h (fun h=>?_) (fun h=>?_)
 conv=>whnf
 refine ⟨by decide,?_⟩
 conv=>whnf
 refine QJ h (fun hp1 h=>?_)
 conv=>whnf
 refine ⟨by decide,?_⟩
 conv=>whnf
 cases h
 exact ⟨⟨rfl,rfl⟩,hI0 _ rfl⟩
 conv=>whnf
 refine QJ h (fun hp2 h=>?_)
 conv=>whnf
 cases h
 obtain rfl:=hR0 _ rfl
 exact hK
theorem w4 (q0:Zc Tryz.prog 296 c3):Zc Tryz.prog 272 c4:=by
 refine Zg Zq (Ze q0 Zj) mixed {loops:=[(0,[.reg 1 (.dat (.int .i64)),.reg 5 (.dat (.int .i64))])]} (fn:=Tryz.f272) Tryz.func272 (by kernel_rfl) (by kernel_rfl) ?_
 rintro ⟨a0,left0,⟨⟩⟩ K ⟨r,h,hK⟩
 change Jr a0 left0=some r at h
 unfold Jr at h
 conv=>whnf
 refine Zx h (fun h=>?_) (fun h=>?_)
 conv=>whnf
 cases h
 exact hK
 conv=>whnf
 refine Yk h ?_
 rintro I0 μ0 ⟨left1,i0,⟨⟩⟩ zs0 h hI0 hR0
 change Zc1 a0 left1 i0=some zs0 at h
 unfold Zc1 at h
 conv=>whnf
 refine Zx h (fun h=>?_) (fun h=>?_)
 conv=>whnf
 refine vAt h (fun x0 he1a he1b he1x h=>?_)
 conv=>whnf
 refine Zk h (fun szTable0 hb2 h=>?_)
 conv=>whnf
 refine Zx h (fun h=>?_) (fun h=>?_)
 conv=>whnf
 cases h
 obtain rfl:=hR0 _ rfl
 exact hK
 conv=>whnf
 cases h
 exact ⟨⟨rfl,rfl⟩,hI0 _ rfl⟩
 conv=>whnf
 cases h
 obtain rfl:=hR0 _ rfl
 exact hK
theorem w39 (q0:Zc Tryz.prog 39 c30) (q1:Zc Tryz.prog 40 c36) (q2:Zc Tryz.prog 41 c38):Zc Tryz.prog 9 c39:=by
 refine Zg YQ (Ze q0 (Ze q1 (Ze q2 Zj))) mixed {} (fn:=Tryz.f9) Tryz.func9 (by kernel_rfl) (by kernel_rfl) ?_
 rintro ⟨a0,⟨⟩⟩ K ⟨r,h,hK⟩
 change Zdv a0=some r at h
 unfold Zdv at h
 conv=>whnf
 refine Zk h (fun toLibrary0 hb0 h=>?_)
 conv=>whnf
 intro fp1
 conv=>whnf
 refine Zk h (fun toDesign0 hb2 h=>?_)
 conv=>whnf
 intro fp3
 conv=>whnf
 refine Zk h (fun toWireS0 hb4 h=>?_)
 conv=>whnf
 intro fp5
 conv=>whnf
 cases h
 exact hK
theorem w28 (q1:Zc Tryz.prog 201 c22) (q2:Zc Tryz.prog 202 c27) (q0:Zc Tryz.prog 117 c23):Zc Tryz.prog 152 c28:=by
 refine Zg YQ (Ze q1 (Ze q2 (Ze q0 Zj))) mixed {} (fn:=Tryz.f152) Tryz.func152 (by kernel_rfl) (by kernel_rfl) ?_
 rintro ⟨a0,⟨⟩⟩ K ⟨r,h,hK⟩
 change Zc0 a0=some r at h
 unfold Zc0 at h
 conv=>whnf
 refine Zk h (fun toPinS0 hb0 h=>?_)
 conv=>whnf
 refine Zk h (fun toArcS0 hb1 h=>?_)
 conv=>whnf
 intro fp2
 conv=>whnf
 refine Zk h (fun toInt64S0 hb3 h=>?_)
 conv=>whnf
 cases h
 exact hK
theorem w41 (q0:Zc Tryz.prog 20 c40):Zc Tryz.prog 10 c41:=by
 refine Zg YQ (Ze q0 Zj) mixed {loops:=[(0,[.reg 4 (.dat (.int .i64)),.ent 0 (nat_lit 74) Zld])]} (fn:=Tryz.f10) Tryz.func10 (by kernel_rfl) (by kernel_rfl) ?_
 rintro ⟨a0,⟨⟩⟩ K ⟨r,h,hK⟩
 change Zds a0=some r at h
 unfold Zds at h
 conv=>whnf
 refine QJ h (fun hp0 h=>?_)
 conv=>whnf
 refine QJ h (fun hp1 h=>?_)
 conv=>whnf
 refine QJ h (fun hp2 h=>?_)
 conv=>whnf
 refine QJ h (fun hp3 h=>?_)
 conv=>whnf
 intro fp4
 conv=>whnf
 refine Yk h ?_
 rintro I5 μ5 ⟨i0,l0,⟨⟩⟩ zs5 h hI5 hR5
 change Zeg a0 i0 l0=some zs5 at h
 unfold Zeg at h
 conv=>whnf
 intro fp6
 conv=>whnf
 refine Zx h (fun h=>?_) (fun h=>?_)
 conv=>whnf
 refine vAt h (fun x0 he7a he7b he7x h=>?_)
 conv=>whnf
 refine Zk h (fun toEdit0 hb8 h=>?_)
 conv=>whnf
 refine vAt h (fun x1 he9a he9b he9x h=>?_)
 conv=>whnf
 refine ⟨he9a,he9b,Zo he9x ?_⟩
 conv=>whnf
 intro fp10
 conv=>whnf
 cases h
 exact ⟨⟨rfl,rfl⟩,hI5 _ rfl⟩
 conv=>whnf
 cases h
 obtain rfl:=hR5 _ rfl
 exact hK
theorem w21:Zc Tryz.prog 243 c21:=by
 refine Zg Zq Zj mixed {} (fn:=Tryz.f243) Tryz.func243 (by kernel_rfl) (by kernel_rfl) ?_
 rintro ⟨a0,⟨⟩⟩ K ⟨r,h,hK⟩
 change Zeu a0=some r at h
 unfold Zeu at h
 conv=>whnf
 cases h
 exact hK
theorem w25 (q0:Zc Tryz.prog 298 c24):Zc Tryz.prog 274 c25:=by
 refine Zg YQ (Ze q0 Zj) mixed {loops:=[(0,[.reg 4 (.dat (.int .i64)),.ent 0 (nat_lit 290) ZeY])]} (fn:=Tryz.f274) Tryz.func274 (by kernel_rfl) (by kernel_rfl) ?_
 rintro ⟨a0,⟨⟩⟩ K ⟨r,h,hK⟩
 change Zbr a0=some r at h
 unfold Zbr at h
 conv=>whnf
 refine QJ h (fun hp0 h=>?_)
 conv=>whnf
 refine QJ h (fun hp1 h=>?_)
 conv=>whnf
 refine QJ h (fun hp2 h=>?_)
 conv=>whnf
 refine QJ h (fun hp3 h=>?_)
 conv=>whnf
 intro fp4
 conv=>whnf
 refine Yk h ?_
 rintro I5 μ5 ⟨i0,l0,⟨⟩⟩ zs5 h hI5 hR5
 change Zc7 a0 i0 l0=some zs5 at h
 unfold Zc7 at h
 conv=>whnf
 intro fp6
 conv=>whnf
 refine Zx h (fun h=>?_) (fun h=>?_)
 conv=>whnf
 refine vAt h (fun x0 he7a he7b he7x h=>?_)
 conv=>whnf
 refine Zk h (fun toTable0 hb8 h=>?_)
 conv=>whnf
 refine vAt h (fun x1 he9a he9b he9x h=>?_)
 conv=>whnf
 refine ⟨he9a,he9b,Zo he9x ?_⟩
 conv=>whnf
 intro fp10
 conv=>whnf
 cases h
 exact ⟨⟨rfl,rfl⟩,hI5 _ rfl⟩
 conv=>whnf
 cases h
 obtain rfl:=hR5 _ rfl
 exact hK
theorem w37 (q0:Zc Tryz.prog 117 c23):Zc Tryz.prog 59 c37:=by
 refine Zg Zq (Ze q0 Zj) mixed {} (fn:=Tryz.f59) Tryz.func59 (by kernel_rfl) (by kernel_rfl) ?_
 rintro ⟨a0,⟨⟩⟩ K ⟨r,h,hK⟩
 change Zb8 a0=some r at h
 unfold Zb8 at h
 conv=>whnf
 refine Zk h (fun toInt64S0 hb0 h=>?_)
 conv=>whnf
 refine Zk h (fun toInt64S1 hb1 h=>?_)
 conv=>whnf
 refine Zk h (fun toInt64S2 hb2 h=>?_)
 conv=>whnf
 refine Zk h (fun toInt64S3 hb3 h=>?_)
 conv=>whnf
 cases h
 exact hK
theorem ZBZ:Zc Tryz.prog 216 c148:=by
 refine Zg Zq Zj mixed {} (fn:=Tryz.f216) Tryz.func216 (by kernel_rfl) (by kernel_rfl) ?_
 rintro ⟨s0,⟨⟩⟩ K ⟨r,h,hK⟩
 change Xv s0=some r at h
 unfold Xv at h
 conv=>whnf
 refine ⟨fun hd=>?_,?_⟩
 have h:=ZrV (T:=(some ([]:List (List UInt8)))) h (by simp [hd,Zz])
 conv=>whnf
 cases h
 exact hK
 conv=>whnf
 refine QJ h (fun hp0 h=>?_)
 conv=>whnf
 cases h
 exact hK
theorem w99 (q0:Zc Tryz.prog 279 c98):Zc Tryz.prog 247 c99:=by
 refine Zg Zq (Ze q0 Zj) mixed {} (fn:=Tryz.f247) Tryz.func247 (by kernel_rfl) (by kernel_rfl) ?_
 rintro ⟨s0,f0,⟨⟩⟩ K ⟨r,h,hK⟩
 change Yf s0 f0=some r at h
 unfold Yf at h
 conv=>whnf
 refine Zk h (fun c1_0 hb0 h=>?_)
 conv=>whnf
 cases h
 exact hK
theorem ZDb (q0:Zc Tryz.prog 208 Zzs):Zc Tryz.prog 249 Zyf:=by
 refine Zg Zq (Ze q0 Zj) mixed {loops:=[(0,[.reg 8 (.dat (.int .i64))])]} (fn:=Tryz.f249) Tryz.func249 (by kernel_rfl) (by kernel_rfl) ?_
 rintro ⟨s0,f0,⟨⟩⟩ K ⟨r,h,hK⟩
 change Yg s0 f0=some r at h
 unfold Yg at h
 conv=>whnf
 refine Yk h ?_
 rintro I0 μ0 ⟨v0,⟨⟩⟩ zs0 h hI0 hR0
 change Yi s0 v0=some zs0 at h
 unfold Yi at h
 conv=>whnf
 refine Zx h (fun h=>?_) (fun h=>?_)
 conv=>whnf
 refine vAt h (fun x0 he1a he1b he1x h=>?_)
 conv=>whnf
 refine Zk h (fun c1_0 hb2 h=>?_)
 conv=>whnf
 refine YJ h (fun h=>?_) (fun h=>?_)
 conv=>whnf
 cases h
 obtain rfl:=hR0 _ rfl
 exact hK
 conv=>whnf
 cases h
 exact ⟨⟨rfl,rfl⟩,hI0 _ rfl⟩
 conv=>whnf
 cases h
 obtain rfl:=hR0 _ rfl
 exact hK
theorem w78 (q3:Zc Tryz.prog 36 c59) (q0:Zc Tryz.prog 110 c68) (q1:Zc Tryz.prog 111 c69) (q2:Zc Tryz.prog 112 c77):Zc Tryz.prog 56 c78:=by
 refine Zg Zq (Ze q3 (Ze q0 (Ze q1 (Ze q2 Zj)))) mixed {} (fn:=Tryz.f56) Tryz.func56 (by kernel_rfl) (by kernel_rfl) ?_
 rintro ⟨b0,e0,⟨⟩⟩ K ⟨r,h,hK⟩
 change Zcu b0 e0=some r at h
 unfold Zcu at h
 conv=>whnf
 refine Zk h (fun IsBlock0 hb0 h=>?_)
 conv=>whnf
 refine Z5 ?_
 refine YJ h (fun h=>?_) (fun h=>?_)
 conv=>whnf
 refine Zk h (fun l08Blank0 hb1 h=>?_)
 conv=>whnf
 refine Ze5 ?_
 refine YJ h (fun h=>?_) (fun h=>?_)
 conv=>whnf
 refine Zk h (fun l08Range0 hb2 h=>?_)
 conv=>whnf
 refine Z5 ?_
 refine YJ h (fun h=>?_) (fun h=>?_)
 conv=>whnf
 refine Zk h (fun l08State0 hb3 h=>?_)
 conv=>whnf
 refine Z5 ?_
 refine YJ h (fun h=>?_) (fun h=>?_)
 conv=>whnf
 refine Zx h (fun h=>?_) (fun h=>?_)
 conv=>whnf
 refine ZlH h (fun h=>?_) (fun h=>?_)
 conv=>whnf
 cases h
 exact hK
 conv=>whnf
 refine Zx h (fun h=>?_) (fun h=>?_)
 conv=>whnf
 cases h
 exact hK
 conv=>whnf
 cases h
 exact hK
 conv=>whnf
 cases h
 exact hK
 conv=>whnf
 cases h
 exact hK
 conv=>whnf
 cases h
 exact hK
 conv=>whnf
 cases h
 exact hK
 conv=>whnf
 cases h
 exact hK
theorem w51 (q1:Zc Tryz.prog 239 c44) (q2:Zc Tryz.prog 177 c42) (q4:Zc Tryz.prog 144 c43) (q3:Zc Tryz.prog 240 c49) (q0:Zc Tryz.prog 241 c50):Zc Tryz.prog 198 c51:=by
 refine Zg Zq (Ze q1 (Ze q2 (Ze q4 (Ze q3 (Ze q0 Zj))))) mixed {loops:=[(0,[.reg 5 (.dat (.int .i64))]),(2,[.reg 7 (.dat (.int .i64))]),(5,[.reg 9 (.dat (.int .i64))])],draws:=[(13,[0,1,0,7,15,31,0,64,255,511,1023,2047,1023,8191,16383,32767,1023,66559,262143,524287,1048575,2097151,4194303,2097151,16777215,33554431,67108863,2097151,136314879,536870911,1073741823],.op 0 (.op 1 (.op 2 (.op 3 (.op 4 (.op 5 (.op 6 (.op 7 (.op 8 (.op 9 (.op 10 (.op 11 (.op 12 (.op 13 (.op 14 (.op 15 (.op 16 (.op 17 (.op 18 (.op 19 (.op 20 (.op 21 (.op 22 (.op 23 (.op 24 (.op 25 (.op 26 (.op 27 (.op 28 (.op 29 (.op 30 (.done)))))))))))))))))))))))))))))))),(25,[0,1,3,7,15,31,63,127,255,511,1023,2047,4095,511,8703,25087,57855,131071,262143,524287,1048575,2097151,4194303,8388607,16777215,33554431],.op 0 (.op 1 (.op 2 (.op 3 (.op 4 (.op 5 (.op 6 (.op 7 (.op 8 (.op 9 (.op 10 (.op 11 (.op 12 (.op 13 (.op 14 (.op 15 (.op 16 (.op 17 (.op 18 (.op 19 (.op 20 (.op 21 (.op 22 (.op 23 (.op 24 (.op 25 (.done)))))))))))))))))))))))))))]} (fn:=Tryz.f198) Tryz.func198 (by kernel_rfl) (by kernel_rfl) ?_
 rintro ⟨a0,⟨⟩⟩ K ⟨r,h,hK⟩
 change Zep a0=some r at h
 unfold Zep at h
 conv=>whnf
 refine Zk h (fun l03Pins0 hb0 h=>?_)
 conv=>whnf
 refine Ze5 ?_
 refine YJ h (fun h=>?_) (fun h=>?_)
 conv=>whnf
 refine Zk h (fun l03Name0 hb1 h=>?_)
 conv=>whnf
 refine Ze5 ?_
 refine YJ h (fun h=>?_) (fun h=>?_)
 conv=>whnf
 refine ZlH h (fun h=>?_) (fun h=>?_)
 conv=>whnf
 cases h
 exact hK
 conv=>whnf
 refine Zk h (fun l01In0 hb2 h=>?_)
 conv=>whnf
 refine Ze5 ?_
 refine YJ h (fun h=>?_) (fun h=>?_)
 conv=>whnf
 refine Zk h (fun l01In1 hb3 h=>?_)
 conv=>whnf
 refine Z5 ?_
 refine YJ h (fun h=>?_) (fun h=>?_)
 conv=>whnf
 refine Yk h ?_
 rintro I4 μ4 ⟨v0,⟨⟩⟩ zs4 h hI4 hR4
 change Za8 a0 l03Pins0 v0=some zs4 at h
 unfold Za8 at h
 conv=>whnf
 refine Zx h (fun h=>?_) (fun h=>?_)
 conv=>whnf
 refine vAt h (fun x0 he5a he5b he5x h=>?_)
 conv=>whnf
 refine Zk h (fun l03Arc0 hb6 h=>?_)
 conv=>whnf
 refine Z5 ?_
 refine YJ h (fun h=>?_) (fun h=>?_)
 conv=>whnf
 refine Yk h ?_
 rintro I7 μ7 ⟨v1,⟨⟩⟩ zs7 h hI7 hR7
 change JL a0 v0 x0 v1=some zs7 at h
 unfold JL at h
 conv=>whnf
 refine Zx h (fun h=>?_) (fun h=>?_)
 conv=>whnf
 refine ⟨by kernel_rfl,?_⟩
 conv=>whnf
 refine vAt h (fun x1 he8a he8b he8x h=>?_)
 conv=>whnf
 refine Zx h (fun h=>?_) (fun h=>?_)
 conv=>whnf
 refine ⟨he8a,he8b,Zo he8x ?_⟩
 conv=>whnf
 refine Zx h (fun h=>?_) (fun h=>?_)
 conv=>whnf
 refine ⟨he8a,he8b,Zo he8x ?_⟩
 conv=>whnf
 refine ⟨trivial,?_⟩
 conv=>whnf
 refine Zx h (fun h=>?_) (fun h=>?_)
 conv=>whnf
 cases h
 obtain rfl:=hR7 _ rfl
 obtain rfl:=hR4 _ rfl
 exact hK
 conv=>whnf
 cases h
 exact ⟨⟨rfl,rfl⟩,hI7 _ rfl⟩
 conv=>whnf
 refine ⟨trivial,?_⟩
 conv=>whnf
 cases h
 exact ⟨⟨rfl,rfl⟩,hI7 _ rfl⟩
 conv=>whnf
 refine ⟨trivial,?_⟩
 conv=>whnf
 cases h
 exact ⟨⟨rfl,rfl⟩,hI7 _ rfl⟩
 conv=>whnf
 cases h
 obtain rfl:=hR7 _ rfl
 exact ⟨⟨rfl,rfl⟩,hI4 _ rfl⟩
 conv=>whnf
 cases h
 obtain rfl:=hR4 _ rfl
 exact hK
 conv=>whnf
 refine Zk h (fun l03Kinds0 hb9 h=>?_)
 conv=>whnf
 refine Zx h (fun h=>?_) (fun h=>?_)
 conv=>whnf
 refine Yk h ?_
 rintro I10 μ10 ⟨v1,⟨⟩⟩ zs10 h hI10 hR10
 change JE a0 l03Pins0 v1=some zs10 at h
 unfold JE at h
 conv=>whnf
 refine Zx h (fun h=>?_) (fun h=>?_)
 conv=>whnf
 refine vAt h (fun x0 he11a he11b he11x h=>?_)
 conv=>whnf
 refine Zk h (fun l01In2 hb12 h=>?_)
 conv=>whnf
 refine Z5 ?_
 refine YJ h (fun h=>?_) (fun h=>?_)
 conv=>whnf
 cases h
 exact ⟨⟨rfl,rfl⟩,hI10 _ rfl⟩
 conv=>whnf
 cases h
 obtain rfl:=hR10 _ rfl
 obtain rfl:=hR4 _ rfl
 exact hK
 conv=>whnf
 refine Zx h (fun h=>?_) (fun h=>?_)
 conv=>whnf
 refine QJ h (fun hp13 h=>?_)
 conv=>whnf
 cases h
 obtain rfl:=hR10 _ rfl
 obtain rfl:=hR4 _ rfl
 exact hK
 conv=>whnf
 cases h
 obtain rfl:=hR10 _ rfl
 obtain rfl:=hR4 _ rfl
 exact hK
 conv=>whnf
 refine Zx h (fun h=>?_) (fun h=>?_)
 conv=>whnf
 refine ⟨by kernel_rfl,?_⟩
 conv=>whnf
 refine Zx h (fun h=>?_) (fun h=>?_)
 conv=>whnf
 refine vAt h (fun x0 he14a he14b he14x h=>?_)
 conv=>whnf
 refine ⟨by kernel_rfl,?_⟩
 conv=>whnf
 refine ⟨he14a,he14b,Zo he14x ?_⟩
 conv=>whnf
 refine Zx h (fun h=>?_) (fun h=>?_)
 conv=>whnf
 refine vAt h (fun x1 he15a he15b he15x h=>?_)
 conv=>whnf
 refine ⟨by kernel_rfl,?_⟩
 conv=>whnf
 refine ⟨he15a,he15b,Zo he15x ?_⟩
 conv=>whnf
 refine vAt h (fun x2 he16a he16b he16x h=>?_)
 conv=>whnf
 refine ⟨by kernel_rfl,?_⟩
 conv=>whnf
 refine ⟨he16a,he16b,Zo he16x ?_⟩
 conv=>whnf
 refine Z5 ?_
 refine YJ h (fun h=>?_) (fun h=>?_)
 conv=>whnf
 refine ⟨trivial,?_⟩
 conv=>whnf
 cases h
 obtain rfl:=hR4 _ rfl
 exact hK
 conv=>whnf
 refine ⟨trivial,?_⟩
 conv=>whnf
 cases h
 obtain rfl:=hR4 _ rfl
 exact hK
 conv=>whnf
 refine ⟨trivial,?_⟩
 conv=>whnf
 cases h
 obtain rfl:=hR4 _ rfl
 exact hK
 conv=>whnf
 refine ⟨trivial,?_⟩
 conv=>whnf
 cases h
 obtain rfl:=hR4 _ rfl
 exact hK
 conv=>whnf
 refine Zx h (fun h=>?_) (fun h=>?_)
 conv=>whnf
 refine Zx h (fun h=>?_) (fun h=>?_)
 conv=>whnf
 refine vAt h (fun x0 he17a he17b he17x h=>?_)
 conv=>whnf
 refine ⟨by kernel_rfl,?_⟩
 conv=>whnf
 refine ⟨he17a,he17b,Zo he17x ?_⟩
 conv=>whnf
 refine Zx h (fun h=>?_) (fun h=>?_)
 conv=>whnf
 refine vAt h (fun x1 he18a he18b he18x h=>?_)
 conv=>whnf
 refine ⟨by kernel_rfl,?_⟩
 conv=>whnf
 refine ⟨he18a,he18b,Zo he18x ?_⟩
 conv=>whnf
 refine Zx h (fun h=>?_) (fun h=>?_)
 conv=>whnf
 refine vAt h (fun x2 he19a he19b he19x h=>?_)
 conv=>whnf
 refine ⟨by kernel_rfl,?_⟩
 conv=>whnf
 refine ⟨he19a,he19b,Zo he19x ?_⟩
 conv=>whnf
 refine Zx h (fun h=>?_) (fun h=>?_)
 conv=>whnf
 cases h
 obtain rfl:=hR4 _ rfl
 exact hK
 conv=>whnf
 cases h
 obtain rfl:=hR4 _ rfl
 exact hK
 conv=>whnf
 cases h
 obtain rfl:=hR4 _ rfl
 exact hK
 conv=>whnf
 cases h
 obtain rfl:=hR4 _ rfl
 exact hK
 conv=>whnf
 cases h
 obtain rfl:=hR4 _ rfl
 exact hK
 conv=>whnf
 cases h
 obtain rfl:=hR4 _ rfl
 exact hK
 conv=>whnf
 cases h
 exact hK
 conv=>whnf
 cases h
 exact hK
 conv=>whnf
 cases h
 exact hK
 conv=>whnf
 cases h
 exact hK
theorem w43:Zc Tryz.prog 144 c43:=by
 refine Zg Zq Zj mixed {} (fn:=Tryz.f144) Tryz.func144 (by kernel_rfl) (by kernel_rfl) ?_
 rintro ⟨n0,low0,high0,⟨⟩⟩ K ⟨r,h,hK⟩
 change Ye n0 low0 high0=some r at h
 unfold Ye at h
 conv=>whnf
 refine Zx h (fun h=>?_) (fun h=>?_)
 conv=>whnf
 cases h
 exact hK
 conv=>whnf
 cases h
 exact hK
theorem w60:Zc Tryz.prog 146 c60:=by
 refine Zg Zq Zj mixed {} (fn:=Tryz.f146) Tryz.func146 (by kernel_rfl) (by kernel_rfl) ?_
 rintro ⟨list0,⟨⟩⟩ K ⟨r,h,hK⟩
 change Xf list0=some r at h
 unfold Xf at h
 conv=>whnf
 refine QJ h (fun hp0 h=>?_)
 conv=>whnf
 cases h
 exact hK
theorem w63 (q1:Zc Tryz.prog 146 c60) (q0:Zc Tryz.prog 199 c62):Zc Tryz.prog 145 c63:=by
 refine Zg YQ (Ze q1 (Ze q0 Zj)) mixed {loops:=[(0,[.reg 4 (.dat (.int .i64)),.cello 1003 3 (.ol 235 (Zrh))])],draws:=[(1,[0,1,0,4,0,0,32,112,0,256,1008,0,2048,0,8192,32767,0,131071],.op 0 (.op 2 (.op 5 (.op 6 (.op 8 (.op 11 (.op 13 (.ld 1 (.ld 3 (.ld 9 (.ld 12 (.ld 14 (.alt 4 (.alt 7 (.alt 10 (.op 15 (.alt 16 (.alt 17 (.done) (.done)) (.done))) (.alt 16 (.alt 10 (.op 15 (.alt 17 (.done) (.done))) (.done)) (.done))) (.alt 16 (.alt 7 (.alt 10 (.op 15 (.alt 17 (.done) (.done))) (.done)) (.done)) (.done))) (.alt 16 (.alt 4 (.alt 7 (.alt 10 (.op 15 (.alt 17 (.done) (.done))) (.done)) (.done)) (.done)) (.done)))))))))))))))]} (fn:=Tryz.f145) Tryz.func145 (by kernel_rfl) (by kernel_rfl) ?_
 rintro ⟨c0,⟨⟩⟩ K ⟨r,h,hK⟩
 change Zen c0=some r at h
 unfold Zen at h
 focus
  conv=>whnf
  refine ⟨by kernel_rfl,?_⟩
  conv=>whnf
  refine ⟨by kernel_rfl,?_⟩
  conv=>whnf
  refine ⟨by kernel_rfl,?_⟩
  conv=>whnf
  refine ⟨by kernel_rfl,?_⟩
  conv=>whnf
  refine ⟨by kernel_rfl,?_⟩
  conv=>whnf
  refine ⟨by kernel_rfl,?_⟩
  conv=>whnf
  obtain ⟨hp0,h⟩:=guardE h
  obtain ⟨l02Ints0,hb1,h⟩:=Option.bind_eq_some_iff.1 h
  refine ⟨?_,?_⟩
  rotate_left
  focus
   conv=>whnf
   refine ⟨by kernel_rfl,?_⟩
   conv=>whnf
   refine ⟨hp0,?_⟩
   conv=>whnf
   refine ⟨_,hb1,?_⟩
   conv=>whnf
   refine ⟨trivial,?_⟩
  rotate_right
  focus
   conv=>whnf
   refine ⟨?_,?_⟩
   rotate_left
   focus
    conv=>whnf
    refine ⟨by kernel_rfl,?_⟩
    conv=>whnf
    refine ⟨hp0,?_⟩
    conv=>whnf
    refine ⟨_,hb1,?_⟩
    conv=>whnf
    refine ⟨trivial,?_⟩
   rotate_right
   focus
    conv=>whnf
    refine ⟨by kernel_rfl,?_⟩
    conv=>whnf
    refine ⟨hp0,?_⟩
    conv=>whnf
    refine ⟨?_,?_⟩
    rotate_left
    focus
     conv=>whnf
     refine ⟨_,hb1,?_⟩
     conv=>whnf
     refine ⟨trivial,?_⟩
    rotate_right
    focus
     conv=>whnf
     refine ⟨_,hb1,?_⟩
     conv=>whnf
     refine ⟨trivial,?_⟩
  all_goals
   conv=>whnf
   refine Yk h ?_
   rintro I2 μ2 ⟨i0,c1,⟨⟩⟩ zs2 h hI2 hR2
   change JK c0 l02Ints0 i0 c1=some zs2 at h
   unfold JK at h
   conv=>whnf
   intro fp3
   conv=>whnf
   refine Zx h (fun h=>?_) (fun h=>?_)
   conv=>whnf
   refine vAt h (fun x0 he4a he4b he4x h=>?_)
   conv=>whnf
   refine Zk h (fun l03OwnTables0 hb5 h=>?_)
   conv=>whnf
   intro fp6
   conv=>whnf
   refine Zk h (fun l03OwnTables1 hb7 h=>?_)
   conv=>whnf
   intro fp8
   conv=>whnf
   intro fp9
   conv=>whnf
   refine QJ h (fun hp10 h=>?_)
   conv=>whnf
   intro fp11
   conv=>whnf
   cases h
   exact ⟨⟨rfl,rfl⟩,hI2 _ rfl⟩
   conv=>whnf
   cases h
   obtain rfl:=hR2 _ rfl
   exact hK
theorem w81:Zc Tryz.prog 200 c81:=by
 refine Zg Zq Zj mixed {} (fn:=Tryz.f200) Tryz.func200 (by kernel_rfl) (by kernel_rfl) ?_
 rintro ⟨sinks0,load0,⟨⟩⟩ K ⟨r,h,hK⟩
 change ZaM sinks0 load0=some r at h
 unfold ZaM at h
 conv=>whnf
 refine QJ h (fun hp0 h=>?_)
 conv=>whnf
 refine QJ h (fun hp1 h=>?_)
 conv=>whnf
 refine QJ h (fun hp2 h=>?_)
 conv=>whnf
 refine QJ h (fun hp3 h=>?_)
 conv=>whnf
 cases h
 exact hK
theorem w66 (q0:Zc Tryz.prog 146 c60):Zc Tryz.prog 85 c66:=by
 refine Zg Zq (Ze q0 Zj) mixed {draws:=[(1,[0,1,3,0,8,31,0,64,255,0,512,2047,4095,8191],.op 0 (.op 1 (.op 3 (.op 4 (.op 6 (.op 7 (.op 9 (.op 10 (.alt 2 (.alt 5 (.alt 8 (.alt 11 (.op 12 (.alt 13 (.done) (.done))) (.done)) (.done)) (.done)) (.done))))))))))]} (fn:=Tryz.f85) Tryz.func85 (by kernel_rfl) (by kernel_rfl) ?_
 rintro ⟨w0,⟨⟩⟩ K ⟨r,h,hK⟩
 change Zae w0=some r at h
 unfold Zae at h
 conv=>whnf
 refine ⟨by kernel_rfl,?_⟩
 conv=>whnf
 refine Zk h (fun l02Ints0 hb0 h=>?_)
 conv=>whnf
 refine Zk h (fun l02Ints1 hb1 h=>?_)
 conv=>whnf
 refine Zk h (fun l02Ints2 hb2 h=>?_)
 conv=>whnf
 refine Zk h (fun l02Ints3 hb3 h=>?_)
 conv=>whnf
 refine ⟨trivial,?_⟩
 conv=>whnf
 cases h
 exact hK
end Go.Proofs.YtfndhpjedmopdaaGreatDoor
