/-
  The functions keep their contracts, if what they call does. Printed by program.
-/
import Derived.Test.YtehkanadahncgaaGreatDoorM
import Derived.KernelRfl
namespace Go.Proofs.YtehkanadahncgaaGreatDoor
open Go Go.Sx
set_option maxRecDepth 100000
set_option maxHeartbeats 3200000
set_option linter.unusedVariables false
set_option linter.unusedSimpArgs false
theorem ZzH (q1:Zc Tryz.prog 104 Zvz) (q2:Zc Tryz.prog 70 Zra) (q3:Zc Tryz.prog 156 c130) (q0:Zc Tryz.prog 157 Zyw) (q5:Zc Tryz.prog 105 ZvR) (q4:Zc Tryz.prog 106 c175):Zc Tryz.prog 102 c182:=by
 refine Zg YO (Ze q1 (Ze q2 (Ze q3 (Ze q0 (Ze q5 (Ze q4 Zj)))))) mixed {draws:=[(2,[0,1,3,7,15,0,32,127,255,0,1023],.op 0 (.op 1 (.op 2 (.op 3 (.op 5 (.op 6 (.alt 4 (.op 7 (.op 8 (.alt 9 (.alt 10 (.done) (.done)) (.done)))) (.alt 9 (.alt 4 (.op 7 (.op 8 (.alt 10 (.done) (.done)))) (.done)) (.done))))))))),(4,[0,1,3,7,15,31,0,64,192,448,960,2047,4095,8191],.op 0 (.op 1 (.op 2 (.op 3 (.op 4 (.op 6 (.op 7 (.op 8 (.op 9 (.op 10 (.alt 5 (.alt 11 (.op 12 (.op 13 (.done))) (.done)) (.done)))))))))))),(5,[0,0,2,6,14,30,0,64,0,256,0,1024,0,7168,16320,32704,65534,131071,262143,524287,1048575],.op 0 (.op 1 (.op 2 (.op 3 (.op 4 (.op 5 (.op 6 (.op 7 (.op 8 (.op 9 (.op 10 (.op 11 (.op 12 (.alt 13 (.op 14 (.alt 15 (.alt 16 (.op 17 (.op 18 (.op 19 (.alt 20 (.done) (.done))))) (.done)) (.done))) (.done))))))))))))))),(6,[0,0,2,6,14,30,0,64,192,510,1023,2047,4095,8191],.op 0 (.op 1 (.op 2 (.op 3 (.op 4 (.op 5 (.op 6 (.op 7 (.alt 8 (.alt 9 (.op 10 (.op 11 (.op 12 (.alt 13 (.done) (.done))))) (.done)) (.done))))))))))]} (fn:=Tryz.f102) Tryz.func102 (by kernel_rfl) (by kernel_rfl) ?_
 rintro ⟨a0,a1,⟨⟩⟩ K ⟨r,h,hK⟩
 change Jt a0 a1=some r at h
 unfold Jt at h
 focus
  conv=>whnf
  intro fp0
  conv=>whnf
  intro fp1
  conv=>whnf
  intro fp2
  conv=>whnf
  refine Zl h (fun nodesOf0 hb3 h=>?_)
  conv=>whnf
  refine ⟨by kernel_rfl,?_⟩
  conv=>whnf
  obtain ⟨places0,hb4,h⟩:=Option.bind_eq_some_iff.1 h
  obtain ⟨x0,he5a,he5b,he5x,h⟩:=atE h
  refine ⟨?_,?_⟩
  rotate_left
  focus
   conv=>whnf
   refine ⟨_,hb4,?_⟩
   conv=>whnf
   refine ⟨he5a,he5b,Zp he5x ?_⟩
   conv=>whnf
   refine ⟨by kernel_rfl,?_⟩
   conv=>whnf
   refine ⟨he5a,he5b,Zp he5x ?_⟩
   conv=>whnf
   refine ⟨trivial,?_⟩
  rotate_right
  focus
   conv=>whnf
   refine ⟨_,hb4,?_⟩
   conv=>whnf
   refine ⟨he5a,he5b,Zp he5x ?_⟩
   conv=>whnf
   refine ⟨by kernel_rfl,?_⟩
   conv=>whnf
   refine ⟨he5a,he5b,Zp he5x ?_⟩
   conv=>whnf
   refine ⟨trivial,?_⟩
  all_goals
   conv=>whnf
   refine ⟨by kernel_rfl,?_⟩
   conv=>whnf
   refine Zl h (fun string0 hb6 h=>?_)
   conv=>whnf
   refine Zl h (fun Instance0 hb7 h=>?_)
   conv=>whnf
   refine ⟨trivial,?_⟩
   conv=>whnf
   refine ⟨by kernel_rfl,?_⟩
   conv=>whnf
   intro fp8
   conv=>whnf
   refine Qt h (fun hp9 h=>?_)
   conv=>whnf
   intro fp10
   conv=>whnf
   refine ⟨trivial,?_⟩
   conv=>whnf
   refine ⟨by kernel_rfl,?_⟩
   conv=>whnf
   refine Qt h (fun hp11 h=>?_)
   conv=>whnf
   refine ⟨trivial,?_⟩
   conv=>whnf
   intro fp12
   conv=>whnf
   refine Qt h (fun hp13 h=>?_)
   conv=>whnf
   intro fp14
   conv=>whnf
   refine Zl h (fun setNet0 hb15 h=>?_)
   conv=>whnf
   intro fp16
   conv=>whnf
   intro fp17
   conv=>whnf
   intro fp18
   conv=>whnf
   refine Zl h (fun connect0 hb19 h=>?_)
   conv=>whnf
   intro fp20
   conv=>whnf
   intro fp21
   conv=>whnf
   intro fp22
   conv=>whnf
   cases h
   exact hK
theorem ZAn (q0:Zc Tryz.prog 70 Zra):Zc Tryz.prog 106 c175:=by
 refine Zg YO (Ze q0 Zj) mixed {loops:=[(0,[.reg 13 (.dat (.int .i64)),.ent 4 (nat_lit 64) (Dp.pair (Dp.ol (2:Go.TypeId) (Dp.flat (Ty.int IntKind.i64))) (Dp.pair (Dp.ol (2:Go.TypeId) (Dp.flat (Ty.int IntKind.i64))) (Dp.pair (Dp.ol (2:Go.TypeId) (Dp.flat (Ty.int IntKind.i64))) (Dp.pair (Dp.ol (2:Go.TypeId) (Dp.flat (Ty.int IntKind.i64))) (Dp.flat Ty.unit)))))]),(2,[.reg 30 (.dat (.int .i64)),.ent 4 (nat_lit 64) (Dp.pair (Dp.ol (2:Go.TypeId) (Dp.flat (Ty.int IntKind.i64))) (Dp.pair (Dp.ol (2:Go.TypeId) (Dp.flat (Ty.int IntKind.i64))) (Dp.pair (Dp.ol (2:Go.TypeId) (Dp.flat (Ty.int IntKind.i64))) (Dp.pair (Dp.ol (2:Go.TypeId) (Dp.flat (Ty.int IntKind.i64))) (Dp.flat Ty.unit)))))])],draws:=[(9,[0,1,3,7,0,16,63,127],.op 0 (.op 1 (.op 2 (.op 3 (.op 4 (.op 5 (.op 6 (.op 7 (.done))))))))),(10,[0,0,2,6,14,0,0,64,0,256,960,2016,4064,8190,16383,32767,65535],.op 0 (.op 1 (.op 2 (.op 3 (.op 5 (.op 6 (.op 7 (.op 8 (.op 9 (.op 10 (.alt 4 (.alt 11 (.alt 12 (.alt 13 (.op 14 (.op 15 (.alt 16 (.done) (.done)))) (.done)) (.done)) (.done)) (.alt 11 (.alt 4 (.alt 12 (.alt 13 (.op 14 (.op 15 (.alt 16 (.done) (.done)))) (.done)) (.done)) (.alt 12 (.alt 4 (.alt 13 (.op 14 (.op 15 (.alt 16 (.done) (.done)))) (.done)) (.done)) (.done))) (.done)))))))))))))]} (fn:=Tryz.f106) Tryz.func106 (by kernel_rfl) (by kernel_rfl) ?_
 rintro ⟨b0,nodes0,⟨⟩⟩ K ⟨r,h,hK⟩
 change Xh b0 nodes0=some r at h
 unfold Xh at h
 conv=>whnf
 intro fp0
 conv=>whnf
 intro fp1
 conv=>whnf
 intro fp2
 conv=>whnf
 refine Yj h ?_
 rintro I3 μ3 ⟨v0,l0,⟨⟩⟩ zs3 h hI3 hR3
 change Xl b0 nodes0 v0 l0=some zs3 at h
 unfold Xl at h
 conv=>whnf
 intro fp4
 conv=>whnf
 refine Zz h (fun h=>?_) (fun h=>?_)
 conv=>whnf
 refine vAt h (fun x0 he5a he5b he5x h=>?_)
 conv=>whnf
 refine ⟨he5a,he5b,Zp he5x ?_⟩
 conv=>whnf
 intro fp6
 conv=>whnf
 cases h
 exact ⟨⟨rfl,rfl⟩,hI3 _ rfl⟩
 conv=>whnf
 refine Zl h (fun places0 hb7 h=>?_)
 conv=>whnf
 refine Yj h ?_
 rintro I8 μ8 ⟨v1,l1,⟨⟩⟩ zs8 h hI8 hR8
 change Qh b0 nodes0 places0 v1 l1=some zs8 at h
 unfold Qh at h
 conv=>whnf
 intro fp9
 conv=>whnf
 refine Zz h (fun h=>?_) (fun h=>?_)
 conv=>whnf
 refine vAt h (fun x0 he10a he10b he10x h=>?_)
 conv=>whnf
 refine ⟨by kernel_rfl,?_⟩
 conv=>whnf
 refine ⟨he10a,he10b,Zp he10x ?_⟩
 conv=>whnf
 refine Yb ?_
 refine YJ h (fun h=>?_) (fun h=>?_)
 conv=>whnf
 cases h
 exact ⟨⟨rfl,rfl⟩,hI8 _ rfl⟩
 focus
  conv=>whnf
  refine ⟨by kernel_rfl,?_⟩
  conv=>whnf
  refine vAt h (fun x1 he11a he11b he11x h=>?_)
  conv=>whnf
  refine ⟨trivial,?_⟩
  conv=>whnf
  refine ⟨by kernel_rfl,?_⟩
  conv=>whnf
  obtain ⟨hp13,h⟩:=guardE h
  refine ⟨?_,?_⟩
  rotate_left
  focus
   conv=>whnf
   refine ⟨?_,?_⟩
   rotate_left
   focus
    conv=>whnf
    refine ⟨he11a,he11b,Zp he11x ?_⟩
    conv=>whnf
    intro fp14
    conv=>whnf
    refine ⟨hp13,?_⟩
    conv=>whnf
    refine .inl ⟨rfl,?_⟩
    conv=>whnf
    refine ⟨trivial,?_⟩
   rotate_right
   focus
    conv=>whnf
    refine ⟨he11a,he11b,Zp he11x ?_⟩
    conv=>whnf
    intro fp14
    conv=>whnf
    refine ⟨hp13,?_⟩
    conv=>whnf
    refine .inl ⟨rfl,?_⟩
    conv=>whnf
    refine ⟨trivial,?_⟩
  rotate_right
  focus
   conv=>whnf
   refine ⟨he11a,he11b,Zp he11x ?_⟩
   conv=>whnf
   intro fp14
   conv=>whnf
   refine ⟨hp13,?_⟩
   conv=>whnf
   refine .inl ⟨rfl,?_⟩
   conv=>whnf
   refine ⟨trivial,?_⟩
  all_goals
   conv=>whnf
   cases h
   exact ⟨⟨rfl,rfl⟩,hI8 _ rfl⟩
 conv=>whnf
 cases h
 obtain rfl:=hR8 _ rfl
 obtain rfl:=hR3 _ rfl
 exact hK
theorem ZA2:Zc Tryz.prog 280 Zx9:=by
 refine Zg Zr Zj mixed {} (fn:=Tryz.f280) Tryz.func280 (by kernel_rfl) (by kernel_rfl) ?_
 rintro ⟨p0,⟨⟩⟩ K ⟨r,h,hK⟩
 change Zap p0=some r at h
 unfold Zap at h
 conv=>whnf
 cases h
 exact hK
theorem ZAu (q0:Zc Tryz.prog 246 Zyb):Zc Tryz.prog 249 c124:=by
 refine Zg Zr (Ze q0 Zj) mixed {} (fn:=Tryz.f249) Tryz.func249 (by kernel_rfl) (by kernel_rfl) ?_
 rintro ⟨c0,kind0,⟨⟩⟩ K ⟨r,h,hK⟩
 change QA c0 kind0=some r at h
 unfold QA at h
 conv=>whnf
 refine Zl h (fun c1_0 hb0 h=>?_)
 conv=>whnf
 cases h
 exact hK
theorem ZBT (q0:Zc Tryz.prog 248 Zwf) (q1:Zc Tryz.prog 137 c90):Zc Tryz.prog 264 ZxF:=by
 refine Zg Zr (Ze q0 (Ze q1 Zj)) mixed {} (fn:=Tryz.f264) Tryz.func264 (by kernel_rfl) (by kernel_rfl) ?_
 rintro ⟨c0,pin0,⟨⟩⟩ K ⟨r,h,hK⟩
 change Q9 c0 pin0=some r at h
 unfold Q9 at h
 conv=>whnf
 refine Zl h (fun output0 hb0 h=>?_)
 conv=>whnf
 refine Zl h (fun within0 hb1 h=>?_)
 conv=>whnf
 cases h
 exact hK
theorem ZBS (q1:Zc Tryz.prog 186 Zyt) (q0:Zc Tryz.prog 187 c95):Zc Tryz.prog 130 c127:=by
 refine Zg Zr (Ze q1 (Ze q0 Zj)) mixed {loops:=[(0,[.reg 3 (.own (.ol 9 (.flat (.str)))),.reg 9 (.dat (.int .i64))])]} (fn:=Tryz.f130) Tryz.func130 (by kernel_rfl) (by kernel_rfl) ?_
 rintro ⟨l0,⟨⟩⟩ K ⟨r,h,hK⟩
 change Zbz l0=some r at h
 unfold Zbz at h
 conv=>whnf
 refine Yj h ?_
 rintro I0 μ0 ⟨names0,v0,⟨⟩⟩ zs0 h hI0 hR0
 change XH l0 names0 v0=some zs0 at h
 unfold XH at h
 conv=>whnf
 refine Zz h (fun h=>?_) (fun h=>?_)
 conv=>whnf
 refine vAt h (fun x0 he1a he1b he1x h=>?_)
 conv=>whnf
 refine Zl h (fun IsCell0 hb2 h=>?_)
 conv=>whnf
 refine Yb ?_
 refine YJ h (fun h=>?_) (fun h=>?_)
 conv=>whnf
 refine Qt h (fun hp3 h=>?_)
 conv=>whnf
 cases h
 exact ⟨⟨rfl,rfl⟩,hI0 _ rfl⟩
 conv=>whnf
 cases h
 obtain rfl:=hR0 _ rfl
 exact hK
 conv=>whnf
 refine Zz h (fun h=>?_) (fun h=>?_)
 conv=>whnf
 refine Zl h (fun areNames0 hb4 h=>?_)
 conv=>whnf
 cases h
 obtain rfl:=hR0 _ rfl
 exact hK
 conv=>whnf
 cases h
 obtain rfl:=hR0 _ rfl
 exact hK
theorem ZBF (q0:Zc Tryz.prog 196 ZyN) (q2:Zc Tryz.prog 159 c145) (q1:Zc Tryz.prog 197 c146) (q3:Zc Tryz.prog 198 ZxR):Zc Tryz.prog 149 c148:=by
 refine Zg YO (Ze q0 (Ze q2 (Ze q1 (Ze q3 Zj)))) mixed {loops:=[(0,[.reg 11 (.dat (.int .i64)),.cello 1003 0 (.ol 169 (Zjc))]),(2,[.reg 30 (.dat (.int .i64)),.splt 7 235 ZqC])],draws:=[(5,[0,1,3,0,8,31,31,127,255,511],.op 0 (.op 1 (.op 3 (.op 4 (.alt 2 (.op 6 (.alt 5 (.alt 7 (.op 8 (.alt 9 (.done) (.done))) (.done)) (.done))) (.done)))))),(10,[0,1,0,0,8,0,0,64,192,0,512,1984,4039,8135,16327,32767,65535,131071],.op 0 (.op 1 (.op 2 (.op 3 (.op 5 (.op 6 (.op 7 (.op 9 (.op 10 (.alt 4 (.alt 8 (.alt 11 (.op 12 (.op 13 (.alt 14 (.op 15 (.op 16 (.alt 17 (.done) (.done)))) (.done)))) (.done)) (.done)) (.alt 8 (.alt 4 (.alt 11 (.op 12 (.op 13 (.alt 14 (.op 15 (.op 16 (.alt 17 (.done) (.done)))) (.done)))) (.done)) (.alt 11 (.op 12 (.op 13 (.alt 4 (.alt 14 (.op 15 (.op 16 (.alt 17 (.done) (.done)))) (.done)) (.alt 14 (.alt 4 (.op 15 (.op 16 (.alt 17 (.done) (.done)))) (.done)) (.done))))) (.done))) (.done))))))))))))]} (fn:=Tryz.f149) Tryz.func149 (by kernel_rfl) (by kernel_rfl) ?_
 rintro ⟨l0,⟨⟩⟩ K ⟨r,h,hK⟩
 change Jj l0=some r at h
 unfold Jj at h
 conv=>whnf
 refine Yj h ?_
 rintro I0 μ0 ⟨v0,c0,⟨⟩⟩ zs0 h hI0 hR0
 change Xz l0 v0 c0=some zs0 at h
 unfold Xz at h
 conv=>whnf
 intro fp1
 conv=>whnf
 refine Zz h (fun h=>?_) (fun h=>?_)
 conv=>whnf
 refine vAt h (fun x0 he2a he2b he2x h=>?_)
 conv=>whnf
 refine ⟨by kernel_rfl,?_⟩
 conv=>whnf
 refine Zl h (fun Pin0 hb3 h=>?_)
 conv=>whnf
 refine Zl h (fun int64_0 hb4 h=>?_)
 conv=>whnf
 refine ⟨trivial,?_⟩
 conv=>whnf
 refine Zl h (fun Arc0 hb5 h=>?_)
 conv=>whnf
 refine Yj h ?_
 rintro I6 μ6 ⟨v1,l1,⟨⟩⟩ zs6 h hI6 hR6
 change QB v0 c0 x0 Pin0 int64_0 Arc0 v1 l1=some zs6 at h
 unfold QB at h
 conv=>whnf
 intro fp7
 conv=>whnf
 refine Zz h (fun h=>?_) (fun h=>?_)
 focus
  conv=>whnf
  refine vAt h (fun x1 he8a he8b he8x h=>?_)
  conv=>whnf
  refine Qt h (fun hp9 h=>?_)
  conv=>whnf
  refine ⟨he8a,he8b,Zp he8x ?_⟩
  conv=>whnf
  refine ⟨by kernel_rfl,?_⟩
  conv=>whnf
  obtain ⟨cloneTables0,hb10,h⟩:=Option.bind_eq_some_iff.1 h
  obtain ⟨cloneTables1,hb12,h⟩:=Option.bind_eq_some_iff.1 h
  obtain ⟨hp14,h⟩:=guardE h
  obtain ⟨x2,he15a,he15b,he15x,h⟩:=atE h
  refine ⟨?_,?_⟩
  rotate_left
  focus
   conv=>whnf
   refine ⟨_,hb10,?_⟩
   conv=>whnf
   intro fp16
   conv=>whnf
   refine ⟨?_,?_⟩
   rotate_left
   focus
    conv=>whnf
    refine ⟨_,hb12,?_⟩
    conv=>whnf
    intro fp17
    conv=>whnf
    refine ⟨he8a,he8b,Zp he8x ?_⟩
    conv=>whnf
    refine ⟨?_,?_⟩
    rotate_left
    focus
     conv=>whnf
     refine ⟨hp14,?_⟩
     conv=>whnf
     refine ⟨he15a,he15b,Zp he15x ?_⟩
     conv=>whnf
     refine ⟨he8a,he8b,Zp he8x ?_⟩
     conv=>whnf
     refine ⟨hp14,?_⟩
     conv=>whnf
     refine ⟨trivial,?_⟩
    rotate_right
    focus
     conv=>whnf
     refine ⟨hp14,?_⟩
     conv=>whnf
     refine ⟨he15a,he15b,Zp he15x ?_⟩
     conv=>whnf
     refine ⟨he8a,he8b,Zp he8x ?_⟩
     conv=>whnf
     refine ⟨hp14,?_⟩
     conv=>whnf
     refine ⟨trivial,?_⟩
   rotate_right
   focus
    conv=>whnf
    refine ⟨_,hb12,?_⟩
    conv=>whnf
    intro fp17
    conv=>whnf
    refine ⟨he8a,he8b,Zp he8x ?_⟩
    conv=>whnf
    refine ⟨hp14,?_⟩
    conv=>whnf
    refine ⟨he15a,he15b,Zp he15x ?_⟩
    conv=>whnf
    refine ⟨he8a,he8b,Zp he8x ?_⟩
    conv=>whnf
    refine ⟨hp14,?_⟩
    conv=>whnf
    refine ⟨trivial,?_⟩
  rotate_right
  focus
   conv=>whnf
   refine ⟨_,hb10,?_⟩
   conv=>whnf
   intro fp16
   conv=>whnf
   refine ⟨_,hb12,?_⟩
   conv=>whnf
   intro fp17
   conv=>whnf
   refine ⟨he8a,he8b,Zp he8x ?_⟩
   conv=>whnf
   refine ⟨hp14,?_⟩
   conv=>whnf
   refine ⟨he15a,he15b,Zp he15x ?_⟩
   conv=>whnf
   refine ⟨he8a,he8b,Zp he8x ?_⟩
   conv=>whnf
   refine ⟨hp14,?_⟩
   conv=>whnf
   refine ⟨trivial,?_⟩
  all_goals
   conv=>whnf
   cases h
   exact ⟨⟨rfl,rfl⟩,hI6 _ rfl⟩
 conv=>whnf
 refine Qt h (fun hp18 h=>?_)
 conv=>whnf
 intro fp19
 conv=>whnf
 refine Qt h (fun hp20 h=>?_)
 conv=>whnf
 intro fp21
 conv=>whnf
 cases h
 obtain rfl:=hR6 _ rfl
 exact ⟨⟨rfl,rfl⟩,hI0 _ rfl⟩
 conv=>whnf
 cases h
 obtain rfl:=hR0 _ rfl
 exact hK
theorem Zz3 (q0:Zc Tryz.prog 211 c162):Zc Tryz.prog 180 ZyD:=by
 refine Zg Zr (Ze q0 Zj) mixed {} (fn:=Tryz.f180) Tryz.func180 (by kernel_rfl) (by kernel_rfl) ?_
 rintro ⟨a0,b0,⟨⟩⟩ K ⟨r,h,hK⟩
 change Zcc a0 b0=some r at h
 unfold Zcc at h
 conv=>whnf
 refine Zz h (fun h=>?_) (fun h=>?_)
 conv=>whnf
 refine Zl h (fun c1_0 hb0 h=>?_)
 conv=>whnf
 cases h
 exact hK
 conv=>whnf
 cases h
 exact hK
theorem ZA8:Zc Tryz.prog 181 c164:=by
 refine Zg Zr Zj mixed {} (fn:=Tryz.f181) Tryz.func181 (by kernel_rfl) (by kernel_rfl) ?_
 rintro ⟨c0,⟨⟩⟩ K ⟨r,h,hK⟩
 change QC c0=some r at h
 unfold QC at h
 conv=>whnf
 refine Zz h (fun h=>?_) (fun h=>?_)
 conv=>whnf
 cases h
 exact hK
 conv=>whnf
 cases h
 exact hK
theorem w90:Zc Tryz.prog 137 c90:=by
 refine Zg Zr Zj mixed {} (fn:=Tryz.f137) Tryz.func137 (by kernel_rfl) (by kernel_rfl) ?_
 rintro ⟨x0,low0,high0,⟨⟩⟩ K ⟨r,h,hK⟩
 change Yp x0 low0 high0=some r at h
 unfold Yp at h
 conv=>whnf
 refine Zz h (fun h=>?_) (fun h=>?_)
 conv=>whnf
 cases h
 exact hK
 conv=>whnf
 cases h
 exact hK
theorem ZB5 (q0:Zc Tryz.prog 151 c196):Zc Tryz.prog 92 Zx4:=by
 refine Zg Zr (Ze q0 Zj) mixed {loops:=[(0,[.reg 5 (.dat (.int .i64))])],draws:=[(6,[0,0,3,7,0,0,48,112,255,511],.op 0 (.op 1 (.op 2 (.op 3 (.op 4 (.op 5 (.op 6 (.op 7 (.alt 8 (.op 9 (.done)) (.done))))))))))]} (fn:=Tryz.f92) Tryz.func92 (by kernel_rfl) (by kernel_rfl) ?_
 rintro ⟨a0,b0,⟨⟩⟩ K ⟨r,h,hK⟩
 change Zdi a0 b0=some r at h
 unfold Zdi at h
 conv=>whnf
 refine Yb ?_
 refine Zz h (fun h=>?_) (fun h=>?_)
 conv=>whnf
 refine Yj h ?_
 rintro I0 μ0 ⟨i0,⟨⟩⟩ zs0 h hI0 hR0
 change ZdF a0 b0 i0=some zs0 at h
 unfold ZdF at h
 conv=>whnf
 refine Zz h (fun h=>?_) (fun h=>?_)
 conv=>whnf
 refine ⟨by kernel_rfl,?_⟩
 conv=>whnf
 refine vAt h (fun x0 he1a he1b he1x h=>?_)
 conv=>whnf
 refine vAt h (fun x1 he2a he2b he2x h=>?_)
 conv=>whnf
 refine Zl h (fun eqCell0 hb3 h=>?_)
 conv=>whnf
 refine ⟨trivial,?_⟩
 conv=>whnf
 refine Yb ?_
 refine YJ h (fun h=>?_) (fun h=>?_)
 conv=>whnf
 cases h
 exact ⟨⟨rfl,rfl⟩,hI0 _ rfl⟩
 conv=>whnf
 cases h
 obtain rfl:=hR0 _ rfl
 exact hK
 conv=>whnf
 cases h
 obtain rfl:=hR0 _ rfl
 exact hK
 conv=>whnf
 cases h
 exact hK
theorem Zzn (q0:Zc Tryz.prog 108 ZvF):Zc Tryz.prog 152 Zxz:=by
 refine Zg Zr (Ze q0 Zj) mixed {} (fn:=Tryz.f152) Tryz.func152 (by kernel_rfl) (by kernel_rfl) ?_
 rintro ⟨a0,b0,⟨⟩⟩ K ⟨r,h,hK⟩
 change JC a0 b0=some r at h
 unfold JC at h
 conv=>whnf
 refine Yb ?_
 refine Zz h (fun h=>?_) (fun h=>?_)
 conv=>whnf
 refine Yb ?_
 refine Zz h (fun h=>?_) (fun h=>?_)
 conv=>whnf
 refine Zl h (fun eqInt64S0 hb0 h=>?_)
 conv=>whnf
 refine Yb ?_
 refine YJ h (fun h=>?_) (fun h=>?_)
 conv=>whnf
 cases h
 exact hK
 conv=>whnf
 cases h
 exact hK
 conv=>whnf
 cases h
 exact hK
 conv=>whnf
 cases h
 exact hK
theorem ZB0 (q0:Zc Tryz.prog 204 c210):Zc Tryz.prog 155 ZxH:=by
 refine Zg YO (Ze q0 Zj) mixed {loops:=[(0,[.reg 1 (.dat (.int .i64)),.reg 5 (.dat (.int .i64)),.ent 0 (nat_lit 235) (Dp.pair (Dp.flat (Ty.int IntKind.i64)) (Dp.pair (Dp.flat (Ty.int IntKind.i64)) (Dp.pair (Dp.flat (Ty.int IntKind.i64)) (Dp.pair (Dp.flat (Ty.int IntKind.i64)) (Dp.pair (Dp.ol (263:Go.TypeId) ZeJ) (Dp.pair (Dp.ol (263:Go.TypeId) ZeJ) (Dp.flat Ty.unit)))))))])]} (fn:=Tryz.f155) Tryz.func155 (by kernel_rfl) (by kernel_rfl) ?_
 rintro ⟨a0,k0,⟨⟩⟩ K ⟨r,h,hK⟩
 change Zb8 a0 k0=some r at h
 unfold Zb8 at h
 conv=>whnf
 intro fp0
 conv=>whnf
 refine Yj h ?_
 rintro I1 μ1 ⟨k1,i0,l0,⟨⟩⟩ zs1 h hI1 hR1
 change JN k1 i0 l0=some zs1 at h
 unfold JN at h
 conv=>whnf
 intro fp2
 conv=>whnf
 refine Zz h (fun h=>?_) (fun h=>?_)
 conv=>whnf
 refine vAt h (fun x0 he3a he3b he3x h=>?_)
 conv=>whnf
 refine ⟨he3a,he3b,Zp he3x ?_⟩
 conv=>whnf
 intro fp4
 conv=>whnf
 intro fp5
 conv=>whnf
 intro fp6
 conv=>whnf
 refine ⟨he3a,he3b,Zp he3x ?_⟩
 conv=>whnf
 refine .inl ⟨rfl,?_⟩
 conv=>whnf
 refine ⟨he3a,he3b,Zp he3x ?_⟩
 conv=>whnf
 refine .inl ⟨rfl,?_⟩
 conv=>whnf
 refine ⟨he3a,he3b,Zp he3x ?_⟩
 conv=>whnf
 refine .inl ⟨rfl,?_⟩
 conv=>whnf
 refine ⟨he3a,he3b,Zp he3x ?_⟩
 conv=>whnf
 refine .inl ⟨rfl,?_⟩
 conv=>whnf
 refine Zl h (fun markTableS0 hb7 h=>?_)
 conv=>whnf
 intro fp8
 conv=>whnf
 refine ⟨he3a,he3b,Zp he3x ?_⟩
 conv=>whnf
 refine .inl ⟨rfl,?_⟩
 conv=>whnf
 refine Zl h (fun markTableS1 hb9 h=>?_)
 conv=>whnf
 intro fp10
 conv=>whnf
 cases h
 exact ⟨⟨rfl,rfl⟩,hI1 _ rfl⟩
 conv=>whnf
 cases h
 obtain rfl:=hR1 _ rfl
 exact hK
theorem ZAd (q1:Zc Tryz.prog 49 ZtG) (q0:Zc Tryz.prog 50 Zu3):Zc Tryz.prog 16 Zye:=by
 refine Zg YO (Ze q1 (Ze q0 Zj)) mixed {loops:=[(0,[.reg 1 (.dat (.int .i64)),.reg 5 (.dat (.int .i64)),.ent 0 (nat_lit 66) (Dp.pair (Dp.flat (Ty.int IntKind.i64)) (Dp.pair (Dp.flat (Ty.int IntKind.i64)) (Dp.pair (Dp.flat (Ty.int IntKind.i64)) (Dp.pair (Dp.flat (Ty.int IntKind.i64)) (Dp.pair (Dp.flat (Ty.int IntKind.i64)) (Dp.pair (Dp.flat Ty.str) (Dp.pair Zha (Dp.flat Ty.unit))))))))])]} (fn:=Tryz.f16) Tryz.func16 (by kernel_rfl) (by kernel_rfl) ?_
 rintro ⟨a0,a1,⟨⟩⟩ K ⟨r,h,hK⟩
 change Vm a0 a1=some r at h
 unfold Vm at h
 conv=>whnf
 intro fp0
 conv=>whnf
 refine Yj h ?_
 rintro I1 μ1 ⟨v0,v1,l0,⟨⟩⟩ zs1 h hI1 hR1
 change XF v0 v1 l0=some zs1 at h
 unfold XF at h
 conv=>whnf
 intro fp2
 conv=>whnf
 refine Zz h (fun h=>?_) (fun h=>?_)
 conv=>whnf
 refine vAt h (fun x0 he3a he3b he3x h=>?_)
 conv=>whnf
 refine ⟨he3a,he3b,Zp he3x ?_⟩
 conv=>whnf
 intro fp4
 conv=>whnf
 refine ⟨he3a,he3b,Zp he3x ?_⟩
 conv=>whnf
 refine .inl ⟨rfl,?_⟩
 conv=>whnf
 refine ⟨he3a,he3b,Zp he3x ?_⟩
 conv=>whnf
 refine .inl ⟨rfl,?_⟩
 conv=>whnf
 refine ⟨he3a,he3b,Zp he3x ?_⟩
 conv=>whnf
 refine .inl ⟨rfl,?_⟩
 conv=>whnf
 refine ⟨he3a,he3b,Zp he3x ?_⟩
 conv=>whnf
 refine .inl ⟨rfl,?_⟩
 conv=>whnf
 refine Zl h (fun markText0 hb5 h=>?_)
 conv=>whnf
 refine ⟨he3a,he3b,Zp he3x ?_⟩
 conv=>whnf
 refine .inl ⟨rfl,?_⟩
 conv=>whnf
 refine ⟨he3a,he3b,Zp he3x ?_⟩
 conv=>whnf
 refine .inl ⟨rfl,?_⟩
 conv=>whnf
 refine Zl h (fun markInt64S0 hb6 h=>?_)
 conv=>whnf
 refine ⟨he3a,he3b,Zp he3x ?_⟩
 conv=>whnf
 refine .inl ⟨rfl,?_⟩
 conv=>whnf
 refine Zl h (fun markInt64S1 hb7 h=>?_)
 conv=>whnf
 refine ⟨he3a,he3b,Zp he3x ?_⟩
 conv=>whnf
 refine .inl ⟨rfl,?_⟩
 conv=>whnf
 refine Zl h (fun markInt64S2 hb8 h=>?_)
 conv=>whnf
 refine ⟨he3a,he3b,Zp he3x ?_⟩
 conv=>whnf
 refine .inl ⟨rfl,?_⟩
 conv=>whnf
 refine Zl h (fun markInt64S3 hb9 h=>?_)
 conv=>whnf
 cases h
 exact ⟨⟨rfl,rfl⟩,hI1 _ rfl⟩
 conv=>whnf
 cases h
 obtain rfl:=hR1 _ rfl
 exact hK
theorem ZAI:Zc Tryz.prog 50 Zu3:=by
 refine Zg YO Zj mixed {loops:=[(0,[.reg 1 (.dat (.int .i64)),.reg 5 (.dat (.int .i64)),.ent 0 (nat_lit 2) (.flat (Ty.int IntKind.i64))])]} (fn:=Tryz.f50) Tryz.func50 (by kernel_rfl) (by kernel_rfl) ?_
 rintro ⟨a0,k0,⟨⟩⟩ K ⟨r,h,hK⟩
 change Yk a0 k0=some r at h
 unfold Yk at h
 conv=>whnf
 refine Yj h ?_
 rintro I0 μ0 ⟨k1,i0,l0,⟨⟩⟩ zs0 h hI0 hR0
 change Xo k1 i0 l0=some zs0 at h
 unfold Xo at h
 conv=>whnf
 refine Zz h (fun h=>?_) (fun h=>?_)
 conv=>whnf
 refine vAt h (fun x0 he1a he1b he1x h=>?_)
 conv=>whnf
 refine ⟨by kernel_rfl,?_⟩
 conv=>whnf
 refine ⟨by decide,?_⟩
 conv=>whnf
 refine ⟨he1a,he1b,Zp he1x ?_⟩
 conv=>whnf
 cases h
 exact ⟨⟨rfl,rfl⟩,hI0 _ rfl⟩
 conv=>whnf
 cases h
 obtain rfl:=hR0 _ rfl
 exact hK
theorem Zzy (q0:Zc Tryz.prog 49 ZtG):Zc Tryz.prog 99 Zx0:=by
 refine Zg YO (Ze q0 Zj) mixed {loops:=[(0,[.reg 1 (.dat (.int .i64)),.reg 5 (.dat (.int .i64)),.ent 0 (nat_lit 178) (.flat Vz)])]} (fn:=Tryz.f99) Tryz.func99 (by kernel_rfl) (by kernel_rfl) ?_
 rintro ⟨a0,k0,⟨⟩⟩ K ⟨r,h,hK⟩
 change Zbs a0 k0=some r at h
 unfold Zbs at h
 conv=>whnf
 refine Yj h ?_
 rintro I0 μ0 ⟨k1,i0,l0,⟨⟩⟩ zs0 h hI0 hR0
 change VW k1 i0 l0=some zs0 at h
 unfold VW at h
 conv=>whnf
 refine Zz h (fun h=>?_) (fun h=>?_)
 conv=>whnf
 refine Zl h (fun markText0 hb1 h=>?_)
 conv=>whnf
 refine vAt h (fun x0 he2a he2b he2x h=>?_)
 conv=>whnf
 refine ⟨by kernel_rfl,?_⟩
 conv=>whnf
 refine ⟨by decide,?_⟩
 conv=>whnf
 refine ⟨he2a,he2b,Zp he2x ?_⟩
 conv=>whnf
 refine vAt h (fun x1 he3a he3b he3x h=>?_)
 conv=>whnf
 refine ⟨by kernel_rfl,?_⟩
 conv=>whnf
 refine ⟨by decide,?_⟩
 conv=>whnf
 refine ⟨he3a,he3b,Zp he3x ?_⟩
 conv=>whnf
 refine vAt h (fun x2 he4a he4b he4x h=>?_)
 conv=>whnf
 refine ⟨by kernel_rfl,?_⟩
 conv=>whnf
 refine ⟨by decide,?_⟩
 conv=>whnf
 refine ⟨he4a,he4b,Zp he4x ?_⟩
 conv=>whnf
 cases h
 exact ⟨⟨rfl,rfl⟩,hI0 _ rfl⟩
 conv=>whnf
 cases h
 obtain rfl:=hR0 _ rfl
 exact hK
theorem ZAW (q0:Zc Tryz.prog 49 ZtG):Zc Tryz.prog 98 Zyv:=by
 refine Zg YO (Ze q0 Zj) mixed {loops:=[(0,[.reg 1 (.dat (.int .i64)),.reg 5 (.dat (.int .i64)),.ent 0 (nat_lit 9) (.flat Ty.str)])]} (fn:=Tryz.f98) Tryz.func98 (by kernel_rfl) (by kernel_rfl) ?_
 rintro ⟨a0,k0,⟨⟩⟩ K ⟨r,h,hK⟩
 change Zab a0 k0=some r at h
 unfold Zab at h
 conv=>whnf
 refine Yj h ?_
 rintro I0 μ0 ⟨k1,i0,l0,⟨⟩⟩ zs0 h hI0 hR0
 change Q0 k1 i0 l0=some zs0 at h
 unfold Q0 at h
 conv=>whnf
 refine Zz h (fun h=>?_) (fun h=>?_)
 conv=>whnf
 refine Zl h (fun markText0 hb1 h=>?_)
 conv=>whnf
 refine vAt h (fun x0 he2a he2b he2x h=>?_)
 conv=>whnf
 refine ⟨by kernel_rfl,?_⟩
 conv=>whnf
 refine ⟨by decide,?_⟩
 conv=>whnf
 refine ⟨he2a,he2b,Zp he2x ?_⟩
 conv=>whnf
 cases h
 exact ⟨⟨rfl,rfl⟩,hI0 _ rfl⟩
 conv=>whnf
 cases h
 obtain rfl:=hR0 _ rfl
 exact hK
theorem Zy4 (q0:Zc Tryz.prog 50 Zu3):Zc Tryz.prog 48 c218:=by
 refine Zg YO (Ze q0 Zj) mixed {loops:=[(0,[.reg 1 (.dat (.int .i64)),.reg 5 (.dat (.int .i64)),.ent 0 (nat_lit 64) (Dp.pair (Dp.ol (2:Go.TypeId) (Dp.flat (Ty.int IntKind.i64))) (Dp.pair (Dp.ol (2:Go.TypeId) (Dp.flat (Ty.int IntKind.i64))) (Dp.pair (Dp.ol (2:Go.TypeId) (Dp.flat (Ty.int IntKind.i64))) (Dp.pair (Dp.ol (2:Go.TypeId) (Dp.flat (Ty.int IntKind.i64))) (Dp.flat Ty.unit)))))])]} (fn:=Tryz.f48) Tryz.func48 (by kernel_rfl) (by kernel_rfl) ?_
 rintro ⟨a0,k0,⟨⟩⟩ K ⟨r,h,hK⟩
 change Zbv a0 k0=some r at h
 unfold Zbv at h
 conv=>whnf
 intro fp0
 conv=>whnf
 refine Yj h ?_
 rintro I1 μ1 ⟨k1,i0,l0,⟨⟩⟩ zs1 h hI1 hR1
 change V5 k1 i0 l0=some zs1 at h
 unfold V5 at h
 conv=>whnf
 intro fp2
 conv=>whnf
 refine Zz h (fun h=>?_) (fun h=>?_)
 conv=>whnf
 refine vAt h (fun x0 he3a he3b he3x h=>?_)
 conv=>whnf
 refine ⟨he3a,he3b,Zp he3x ?_⟩
 conv=>whnf
 intro fp4
 conv=>whnf
 refine Zl h (fun markInt64S0 hb5 h=>?_)
 conv=>whnf
 refine ⟨he3a,he3b,Zp he3x ?_⟩
 conv=>whnf
 refine .inl ⟨rfl,?_⟩
 conv=>whnf
 refine Zl h (fun markInt64S1 hb6 h=>?_)
 conv=>whnf
 refine ⟨he3a,he3b,Zp he3x ?_⟩
 conv=>whnf
 refine .inl ⟨rfl,?_⟩
 conv=>whnf
 refine Zl h (fun markInt64S2 hb7 h=>?_)
 conv=>whnf
 refine ⟨he3a,he3b,Zp he3x ?_⟩
 conv=>whnf
 refine .inl ⟨rfl,?_⟩
 conv=>whnf
 refine Zl h (fun markInt64S3 hb8 h=>?_)
 conv=>whnf
 cases h
 exact ⟨⟨rfl,rfl⟩,hI1 _ rfl⟩
 conv=>whnf
 cases h
 obtain rfl:=hR1 _ rfl
 exact hK
theorem w18 (q0:Zc Tryz.prog 34 c9) (q1:Zc Tryz.prog 35 c15) (q2:Zc Tryz.prog 36 c17):Zc Tryz.prog 7 c18:=by
 refine Zg Zr (Ze q0 (Ze q1 (Ze q2 Zj))) mixed {} (fn:=Tryz.f7) Tryz.func7 (by kernel_rfl) (by kernel_rfl) ?_
 rintro ⟨a0,left0,⟨⟩⟩ K ⟨r,h,hK⟩
 change ZaZ a0 left0=some r at h
 unfold ZaZ at h
 conv=>whnf
 refine Zl h (fun szLibrary0 hb0 h=>?_)
 conv=>whnf
 refine Zz h (fun h=>?_) (fun h=>?_)
 conv=>whnf
 cases h
 exact hK
 conv=>whnf
 refine Zl h (fun szDesign0 hb1 h=>?_)
 conv=>whnf
 refine Zz h (fun h=>?_) (fun h=>?_)
 conv=>whnf
 cases h
 exact hK
 conv=>whnf
 refine Zl h (fun szWireS0 hb2 h=>?_)
 conv=>whnf
 refine Zz h (fun h=>?_) (fun h=>?_)
 conv=>whnf
 cases h
 exact hK
 conv=>whnf
 cases h
 exact hK
theorem w17 (q0:Zc Tryz.prog 52 c16):Zc Tryz.prog 36 c17:=by
 refine Zg Zr (Ze q0 Zj) mixed {loops:=[(0,[.reg 1 (.dat (.int .i64)),.reg 5 (.dat (.int .i64))])]} (fn:=Tryz.f36) Tryz.func36 (by kernel_rfl) (by kernel_rfl) ?_
 rintro ⟨a0,left0,⟨⟩⟩ K ⟨r,h,hK⟩
 change ZaW a0 left0=some r at h
 unfold ZaW at h
 conv=>whnf
 refine Zz h (fun h=>?_) (fun h=>?_)
 conv=>whnf
 cases h
 exact hK
 conv=>whnf
 refine Yj h ?_
 rintro I0 μ0 ⟨left1,i0,⟨⟩⟩ zs0 h hI0 hR0
 change ZdE a0 left1 i0=some zs0 at h
 unfold ZdE at h
 conv=>whnf
 refine Zz h (fun h=>?_) (fun h=>?_)
 conv=>whnf
 refine vAt h (fun x0 he1a he1b he1x h=>?_)
 conv=>whnf
 refine Zl h (fun szWire0 hb2 h=>?_)
 conv=>whnf
 refine Zz h (fun h=>?_) (fun h=>?_)
 conv=>whnf
 cases h
 obtain rfl:=hR0 _ rfl
 exact hK
 conv=>whnf
 cases h
 exact ⟨⟨rfl,rfl⟩,hI0 _ rfl⟩
 conv=>whnf
 cases h
 obtain rfl:=hR0 _ rfl
 exact hK
theorem w29 (q0:Zc Tryz.prog 146 c28):Zc Tryz.prog 86 c29:=by
 refine Zg YO (Ze q0 Zj) mixed {loops:=[(0,[.reg 4 (.dat (.int .i64)),.ent 0 (nat_lit 169) Zjc])]} (fn:=Tryz.f86) Tryz.func86 (by kernel_rfl) (by kernel_rfl) ?_
 rintro ⟨a0,⟨⟩⟩ K ⟨r,h,hK⟩
 change Zdm a0=some r at h
 unfold Zdm at h
 conv=>whnf
 refine Qt h (fun hp0 h=>?_)
 conv=>whnf
 refine Qt h (fun hp1 h=>?_)
 conv=>whnf
 refine Qt h (fun hp2 h=>?_)
 conv=>whnf
 refine Qt h (fun hp3 h=>?_)
 conv=>whnf
 intro fp4
 conv=>whnf
 refine Yj h ?_
 rintro I5 μ5 ⟨i0,l0,⟨⟩⟩ zs5 h hI5 hR5
 change ZdZ a0 i0 l0=some zs5 at h
 unfold ZdZ at h
 conv=>whnf
 intro fp6
 conv=>whnf
 refine Zz h (fun h=>?_) (fun h=>?_)
 conv=>whnf
 refine vAt h (fun x0 he7a he7b he7x h=>?_)
 conv=>whnf
 refine Zl h (fun toCell0 hb8 h=>?_)
 conv=>whnf
 intro fp9
 conv=>whnf
 refine vAt h (fun x1 he10a he10b he10x h=>?_)
 conv=>whnf
 refine ⟨he10a,he10b,Zp he10x ?_⟩
 conv=>whnf
 intro fp11
 conv=>whnf
 intro fp12
 conv=>whnf
 cases h
 exact ⟨⟨rfl,rfl⟩,hI5 _ rfl⟩
 conv=>whnf
 cases h
 obtain rfl:=hR5 _ rfl
 exact hK
theorem w41 (q0:Zc Tryz.prog 20 c40):Zc Tryz.prog 11 c41:=by
 refine Zg YO (Ze q0 Zj) mixed {loops:=[(0,[.reg 4 (.dat (.int .i64)),.ent 0 (nat_lit 66) Zi2])]} (fn:=Tryz.f11) Tryz.func11 (by kernel_rfl) (by kernel_rfl) ?_
 rintro ⟨a0,⟨⟩⟩ K ⟨r,h,hK⟩
 change Zdc a0=some r at h
 unfold Zdc at h
 conv=>whnf
 refine Qt h (fun hp0 h=>?_)
 conv=>whnf
 refine Qt h (fun hp1 h=>?_)
 conv=>whnf
 refine Qt h (fun hp2 h=>?_)
 conv=>whnf
 refine Qt h (fun hp3 h=>?_)
 conv=>whnf
 intro fp4
 conv=>whnf
 refine Yj h ?_
 rintro I5 μ5 ⟨i0,l0,⟨⟩⟩ zs5 h hI5 hR5
 change Zdr a0 i0 l0=some zs5 at h
 unfold Zdr at h
 conv=>whnf
 intro fp6
 conv=>whnf
 refine Zz h (fun h=>?_) (fun h=>?_)
 conv=>whnf
 refine vAt h (fun x0 he7a he7b he7x h=>?_)
 conv=>whnf
 refine Zl h (fun toEdit0 hb8 h=>?_)
 conv=>whnf
 refine vAt h (fun x1 he9a he9b he9x h=>?_)
 conv=>whnf
 refine ⟨he9a,he9b,Zp he9x ?_⟩
 conv=>whnf
 intro fp10
 conv=>whnf
 cases h
 exact ⟨⟨rfl,rfl⟩,hI5 _ rfl⟩
 conv=>whnf
 cases h
 obtain rfl:=hR5 _ rfl
 exact hK
theorem w32 (q0:Zc Tryz.prog 147 c31):Zc Tryz.prog 87 c32:=by
 refine Zg YO (Ze q0 Zj) mixed {loops:=[(0,[.reg 4 (.dat (.int .i64)),.ent 0 (nat_lit 124) ZaN])]} (fn:=Tryz.f87) Tryz.func87 (by kernel_rfl) (by kernel_rfl) ?_
 rintro ⟨a0,⟨⟩⟩ K ⟨r,h,hK⟩
 change Zaa a0=some r at h
 unfold Zaa at h
 conv=>whnf
 refine Qt h (fun hp0 h=>?_)
 conv=>whnf
 refine Qt h (fun hp1 h=>?_)
 conv=>whnf
 refine Qt h (fun hp2 h=>?_)
 conv=>whnf
 refine Qt h (fun hp3 h=>?_)
 conv=>whnf
 intro fp4
 conv=>whnf
 refine Yj h ?_
 rintro I5 μ5 ⟨i0,l0,⟨⟩⟩ zs5 h hI5 hR5
 change ZbB a0 i0 l0=some zs5 at h
 unfold ZbB at h
 conv=>whnf
 intro fp6
 conv=>whnf
 refine Zz h (fun h=>?_) (fun h=>?_)
 conv=>whnf
 refine vAt h (fun x0 he7a he7b he7x h=>?_)
 conv=>whnf
 refine Zl h (fun toInstance0 hb8 h=>?_)
 conv=>whnf
 refine vAt h (fun x1 he9a he9b he9x h=>?_)
 conv=>whnf
 refine ⟨he9a,he9b,Zp he9x ?_⟩
 conv=>whnf
 intro fp10
 conv=>whnf
 cases h
 exact ⟨⟨rfl,rfl⟩,hI5 _ rfl⟩
 conv=>whnf
 cases h
 obtain rfl:=hR5 _ rfl
 exact hK
theorem w23:Zc Tryz.prog 101 c23:=by
 refine Zg Zr Zj mixed {loops:=[(0,[.reg 4 (.dat (.int .i64)),.ent 0 (nat_lit 2) (.flat Zsa.ety)])]} (fn:=Tryz.f101) Tryz.func101 (by kernel_rfl) (by kernel_rfl) ?_
 rintro ⟨a0,⟨⟩⟩ K ⟨r,h,hK⟩
 change Xe a0=some r at h
 unfold Xe at h
 conv=>whnf
 refine Qt h (fun hp0 h=>?_)
 conv=>whnf
 refine Qt h (fun hp1 h=>?_)
 conv=>whnf
 refine Qt h (fun hp2 h=>?_)
 conv=>whnf
 refine Qt h (fun hp3 h=>?_)
 conv=>whnf
 refine Yj h ?_
 rintro I4 μ4 ⟨i0,l0,⟨⟩⟩ zs4 h hI4 hR4
 change ZcT a0 i0 l0=some zs4 at h
 unfold ZcT at h
 conv=>whnf
 refine Zz h (fun h=>?_) (fun h=>?_)
 conv=>whnf
 refine vAt h (fun x0 he5a he5b he5x h=>?_)
 conv=>whnf
 refine vAt h (fun x1 he6a he6b he6x h=>?_)
 conv=>whnf
 refine ⟨by kernel_rfl,?_⟩
 conv=>whnf
 refine ⟨by decide,?_⟩
 conv=>whnf
 refine ⟨he6a,he6b,Zp he6x ?_⟩
 conv=>whnf
 cases h
 exact ⟨⟨rfl,rfl⟩,hI4 _ rfl⟩
 conv=>whnf
 cases h
 obtain rfl:=hR4 _ rfl
 exact hK
theorem w21:Zc Tryz.prog 225 c21:=by
 refine Zg Zr Zj mixed {} (fn:=Tryz.f225) Tryz.func225 (by kernel_rfl) (by kernel_rfl) ?_
 rintro ⟨a0,⟨⟩⟩ K ⟨r,h,hK⟩
 change Zeg a0=some r at h
 unfold Zeg at h
 conv=>whnf
 cases h
 exact hK
theorem ZCg (q0:Zc Tryz.prog 222 ZxC):Zc Tryz.prog 188 Zxd:=by
 refine Zg Zr (Ze q0 Zj) mixed {} (fn:=Tryz.f188) Tryz.func188 (by kernel_rfl) (by kernel_rfl) ?_
 rintro ⟨s0,f0,⟨⟩⟩ K ⟨r,h,hK⟩
 change ZI s0 f0=some r at h
 unfold ZI at h
 conv=>whnf
 refine Zl h (fun c1_0 hb0 h=>?_)
 conv=>whnf
 cases h
 exact hK
theorem ZCI (q0:Zc Tryz.prog 190 ZxK):Zc Tryz.prog 134 c138:=by
 refine Zg Zr (Ze q0 Zj) mixed {} (fn:=Tryz.f134) Tryz.func134 (by kernel_rfl) (by kernel_rfl) ?_
 rintro ⟨s0,f0,⟨⟩⟩ K ⟨r,h,hK⟩
 change Ya s0 f0=some r at h
 unfold Ya at h
 conv=>whnf
 refine Zl h (fun c1_0 hb0 h=>?_)
 conv=>whnf
 cases h
 exact hK
theorem w94 (q0:Zc Tryz.prog 217 c93):Zc Tryz.prog 221 c94:=by
 refine Zg Zr (Ze q0 Zj) mixed {} (fn:=Tryz.f221) Tryz.func221 (by kernel_rfl) (by kernel_rfl) ?_
 rintro ⟨s0,v0,⟨⟩⟩ K ⟨r,h,hK⟩
 change YN s0 v0=some r at h
 unfold YN at h
 conv=>whnf
 refine Zl h (fun string0 hb0 h=>?_)
 conv=>whnf
 cases h
 exact hK
theorem ZAB (q0:Zc Tryz.prog 280 Zx9):Zc Tryz.prog 279 Zxg:=by
 refine Zg Zr (Ze q0 Zj) mixed {loops:=[(0,[.reg 8 (.dat (.int .i64))])]} (fn:=Tryz.f279) Tryz.func279 (by kernel_rfl) (by kernel_rfl) ?_
 rintro ⟨s0,f0,⟨⟩⟩ K ⟨r,h,hK⟩
 change ZQ s0 f0=some r at h
 unfold ZQ at h
 conv=>whnf
 refine Yj h ?_
 rintro I0 μ0 ⟨v0,⟨⟩⟩ zs0 h hI0 hR0
 change ZY s0 v0=some zs0 at h
 unfold ZY at h
 conv=>whnf
 refine Zz h (fun h=>?_) (fun h=>?_)
 conv=>whnf
 refine vAt h (fun x0 he1a he1b he1x h=>?_)
 conv=>whnf
 refine Zl h (fun c1_0 hb2 h=>?_)
 conv=>whnf
 refine YJ h (fun h=>?_) (fun h=>?_)
 conv=>whnf
 cases h
 obtain rfl:=hR0 _ rfl
 exact hK
 conv=>whnf
 cases h
 exact ⟨⟨rfl,rfl⟩,hI0 _ rfl⟩
 conv=>whnf
 cases h
 obtain rfl:=hR0 _ rfl
 exact hK
theorem w72:Zc Tryz.prog 125 c72:=by
 refine Zg Zr Zj mixed {loops:=[(0,[.reg 5 (.dat (.int .i64))])]} (fn:=Tryz.f125) Tryz.func125 (by kernel_rfl) (by kernel_rfl) ?_
 rintro ⟨d0,name0,⟨⟩⟩ K ⟨r,h,hK⟩
 change VA d0 name0=some r at h
 unfold VA at h
 conv=>whnf
 refine Yj h ?_
 rintro I0 μ0 ⟨i0,⟨⟩⟩ zs0 h hI0 hR0
 change Qj d0 name0 i0=some zs0 at h
 unfold Qj at h
 conv=>whnf
 refine Zz h (fun h=>?_) (fun h=>?_)
 conv=>whnf
 refine vAt h (fun x0 he1a he1b he1x h=>?_)
 conv=>whnf
 refine Zz h (fun h=>?_) (fun h=>?_)
 conv=>whnf
 cases h
 obtain rfl:=hR0 _ rfl
 exact hK
 conv=>whnf
 cases h
 exact ⟨⟨rfl,rfl⟩,hI0 _ rfl⟩
 conv=>whnf
 cases h
 obtain rfl:=hR0 _ rfl
 exact hK
theorem w59 (q0:Zc Tryz.prog 113 c55) (q1:Zc Tryz.prog 79 c57) (q2:Zc Tryz.prog 114 c58):Zc Tryz.prog 60 c59:=by
 refine Zg Zr (Ze q0 (Ze q1 (Ze q2 Zj))) mixed {loops:=[(0,[.reg 3 (.dat (.int .i64))])],draws:=[(6,[0,1,0,7,15,0,32,0,224,480,1023,2047],.op 0 (.op 1 (.op 2 (.op 3 (.op 4 (.op 5 (.op 6 (.op 7 (.alt 8 (.op 9 (.alt 10 (.op 11 (.done)) (.done))) (.done))))))))))]} (fn:=Tryz.f60) Tryz.func60 (by kernel_rfl) (by kernel_rfl) ?_
 rintro ⟨b0,⟨⟩⟩ K ⟨r,h,hK⟩
 change ZbM b0=some r at h
 unfold ZbM at h
 conv=>whnf
 refine Zl h (fun IsDesign0 hb0 h=>?_)
 conv=>whnf
 refine ZeX ?_
 refine YJ h (fun h=>?_) (fun h=>?_)
 conv=>whnf
 refine Yb ?_
 refine Zz h (fun h=>?_) (fun h=>?_)
 conv=>whnf
 refine Yj h ?_
 rintro I1 μ1 ⟨net0,⟨⟩⟩ zs1 h hI1 hR1
 change Zaj b0 net0=some zs1 at h
 unfold Zaj at h
 conv=>whnf
 refine Zz h (fun h=>?_) (fun h=>?_)
 conv=>whnf
 refine ⟨by kernel_rfl,?_⟩
 conv=>whnf
 refine vAt h (fun x0 he2a he2b he2x h=>?_)
 conv=>whnf
 refine Zl h (fun l05Sinks0 hb3 h=>?_)
 conv=>whnf
 refine Zl h (fun IsWire0 hb4 h=>?_)
 conv=>whnf
 refine ⟨trivial,?_⟩
 conv=>whnf
 refine Yb ?_
 refine YJ h (fun h=>?_) (fun h=>?_)
 conv=>whnf
 cases h
 exact ⟨⟨rfl,rfl⟩,hI1 _ rfl⟩
 conv=>whnf
 cases h
 obtain rfl:=hR1 _ rfl
 exact hK
 conv=>whnf
 cases h
 obtain rfl:=hR1 _ rfl
 exact hK
 conv=>whnf
 cases h
 exact hK
 conv=>whnf
 cases h
 exact hK
theorem w74 (q0:Zc Tryz.prog 174 c73):Zc Tryz.prog 126 c74:=by
 refine Zg Zr (Ze q0 Zj) mixed {} (fn:=Tryz.f126) Tryz.func126 (by kernel_rfl) (by kernel_rfl) ?_
 rintro ⟨d0,name0,⟨⟩⟩ K ⟨r,h,hK⟩
 change Zcr d0 name0=some r at h
 unfold Zcr at h
 conv=>whnf
 refine Zl h (fun l04Index0 hb0 h=>?_)
 conv=>whnf
 cases h
 exact hK
theorem w65 (q0:Zc Tryz.prog 144 c60):Zc Tryz.prog 116 c65:=by
 refine Zg YO (Ze q0 Zj) mixed {loops:=[(0,[.reg 4 (.dat (.int .i64)),.cello 1003 0 (.ol 124 (ZaN))])],draws:=[(1,[0,0,2,7,0,0,32,127,255,0,1023],.op 1 (.op 2 (.op 5 (.ld 6 (.alt 0 (.alt 3 (.alt 4 (.alt 7 (.op 8 (.alt 9 (.alt 10 (.done) (.done)) (.done))) (.alt 9 (.alt 7 (.op 8 (.alt 10 (.done) (.done))) (.done)) (.done))) (.alt 9 (.alt 4 (.alt 7 (.op 8 (.alt 10 (.done) (.done))) (.done)) (.done)) (.done))) (.alt 4 (.alt 3 (.alt 7 (.op 8 (.alt 9 (.alt 10 (.done) (.done)) (.done))) (.alt 9 (.alt 7 (.op 8 (.alt 10 (.done) (.done))) (.done)) (.done))) (.alt 9 (.alt 3 (.alt 7 (.op 8 (.alt 10 (.done) (.done))) (.done)) (.done)) (.done))) (.alt 9 (.alt 3 (.alt 4 (.alt 7 (.op 8 (.alt 10 (.done) (.done))) (.done)) (.done)) (.alt 4 (.alt 3 (.alt 7 (.op 8 (.alt 10 (.done) (.done))) (.done)) (.done)) (.done))) (.done)))) (.alt 4 (.alt 0 (.alt 3 (.alt 7 (.op 8 (.alt 9 (.alt 10 (.done) (.done)) (.done))) (.alt 9 (.alt 7 (.op 8 (.alt 10 (.done) (.done))) (.done)) (.done))) (.alt 9 (.alt 3 (.alt 7 (.op 8 (.alt 10 (.done) (.done))) (.done)) (.done)) (.done))) (.alt 9 (.alt 0 (.alt 3 (.alt 7 (.op 8 (.alt 10 (.done) (.done))) (.done)) (.done)) (.done)) (.done))) (.alt 9 (.alt 0 (.alt 3 (.alt 4 (.alt 7 (.op 8 (.alt 10 (.done) (.done))) (.done)) (.done)) (.alt 4 (.alt 3 (.alt 7 (.op 8 (.alt 10 (.done) (.done))) (.done)) (.done)) (.done))) (.alt 4 (.alt 0 (.alt 3 (.alt 7 (.op 8 (.alt 10 (.done) (.done))) (.done)) (.done)) (.done)) (.done))) (.done))))))))]} (fn:=Tryz.f116) Tryz.func116 (by kernel_rfl) (by kernel_rfl) ?_
 rintro ⟨d0,⟨⟩⟩ K ⟨r,h,hK⟩
 change Zd5 d0=some r at h
 unfold Zd5 at h
 focus
  conv=>whnf
  refine ⟨by kernel_rfl,?_⟩
  conv=>whnf
  refine ⟨by kernel_rfl,?_⟩
  conv=>whnf
  obtain ⟨hp0,h⟩:=guardE h
  obtain ⟨hp1,h⟩:=guardE h
  refine ⟨?_,?_⟩
  rotate_left
  focus
   conv=>whnf
   refine ⟨?_,?_⟩
   rotate_left
   focus
    conv=>whnf
    refine ⟨?_,?_⟩
    rotate_left
    focus
     conv=>whnf
     refine ⟨by kernel_rfl,?_⟩
     conv=>whnf
     refine ⟨hp0,?_⟩
     conv=>whnf
     refine ⟨by kernel_rfl,?_⟩
     conv=>whnf
     refine ⟨hp1,?_⟩
     conv=>whnf
     refine ⟨trivial,?_⟩
    rotate_right
    focus
     conv=>whnf
     refine ⟨?_,?_⟩
     rotate_left
     focus
      conv=>whnf
      refine ⟨by kernel_rfl,?_⟩
      conv=>whnf
      refine ⟨hp0,?_⟩
      conv=>whnf
      refine ⟨by kernel_rfl,?_⟩
      conv=>whnf
      refine ⟨hp1,?_⟩
      conv=>whnf
      refine ⟨trivial,?_⟩
     rotate_right
     focus
      conv=>whnf
      refine ⟨by kernel_rfl,?_⟩
      conv=>whnf
      refine ⟨hp0,?_⟩
      conv=>whnf
      refine ⟨by kernel_rfl,?_⟩
      conv=>whnf
      refine ⟨hp1,?_⟩
      conv=>whnf
      refine ⟨trivial,?_⟩
   rotate_right
   focus
    conv=>whnf
    refine ⟨?_,?_⟩
    rotate_left
    focus
     conv=>whnf
     refine ⟨by kernel_rfl,?_⟩
     conv=>whnf
     refine ⟨hp0,?_⟩
     conv=>whnf
     refine ⟨by kernel_rfl,?_⟩
     conv=>whnf
     refine ⟨hp1,?_⟩
     conv=>whnf
     refine ⟨trivial,?_⟩
    rotate_right
    focus
     conv=>whnf
     refine ⟨?_,?_⟩
     rotate_left
     focus
      conv=>whnf
      refine ⟨by kernel_rfl,?_⟩
      conv=>whnf
      refine ⟨hp0,?_⟩
      conv=>whnf
      refine ⟨by kernel_rfl,?_⟩
      conv=>whnf
      refine ⟨hp1,?_⟩
      conv=>whnf
      refine ⟨trivial,?_⟩
     rotate_right
     focus
      conv=>whnf
      refine ⟨by kernel_rfl,?_⟩
      conv=>whnf
      refine ⟨hp0,?_⟩
      conv=>whnf
      refine ⟨?_,?_⟩
      rotate_left
      focus
       conv=>whnf
       refine ⟨by kernel_rfl,?_⟩
       conv=>whnf
       refine ⟨hp1,?_⟩
       conv=>whnf
       refine ⟨trivial,?_⟩
      rotate_right
      focus
       conv=>whnf
       refine ⟨by kernel_rfl,?_⟩
       conv=>whnf
       refine ⟨hp1,?_⟩
       conv=>whnf
       refine ⟨trivial,?_⟩
  rotate_right
  focus
   conv=>whnf
   refine ⟨?_,?_⟩
   rotate_left
   focus
    conv=>whnf
    refine ⟨?_,?_⟩
    rotate_left
    focus
     conv=>whnf
     refine ⟨?_,?_⟩
     rotate_left
     focus
      conv=>whnf
      refine ⟨by kernel_rfl,?_⟩
      conv=>whnf
      refine ⟨hp0,?_⟩
      conv=>whnf
      refine ⟨by kernel_rfl,?_⟩
      conv=>whnf
      refine ⟨hp1,?_⟩
      conv=>whnf
      refine ⟨trivial,?_⟩
     rotate_right
     focus
      conv=>whnf
      refine ⟨by kernel_rfl,?_⟩
      conv=>whnf
      refine ⟨hp0,?_⟩
      conv=>whnf
      refine ⟨by kernel_rfl,?_⟩
      conv=>whnf
      refine ⟨hp1,?_⟩
      conv=>whnf
      refine ⟨trivial,?_⟩
    rotate_right
    focus
     conv=>whnf
     refine ⟨?_,?_⟩
     rotate_left
     focus
      conv=>whnf
      refine ⟨by kernel_rfl,?_⟩
      conv=>whnf
      refine ⟨hp0,?_⟩
      conv=>whnf
      refine ⟨by kernel_rfl,?_⟩
      conv=>whnf
      refine ⟨hp1,?_⟩
      conv=>whnf
      refine ⟨trivial,?_⟩
     rotate_right
     focus
      conv=>whnf
      refine ⟨by kernel_rfl,?_⟩
      conv=>whnf
      refine ⟨hp0,?_⟩
      conv=>whnf
      refine ⟨?_,?_⟩
      rotate_left
      focus
       conv=>whnf
       refine ⟨by kernel_rfl,?_⟩
       conv=>whnf
       refine ⟨hp1,?_⟩
       conv=>whnf
       refine ⟨trivial,?_⟩
      rotate_right
      focus
       conv=>whnf
       refine ⟨by kernel_rfl,?_⟩
       conv=>whnf
       refine ⟨hp1,?_⟩
       conv=>whnf
       refine ⟨trivial,?_⟩
   rotate_right
   focus
    conv=>whnf
    refine ⟨by kernel_rfl,?_⟩
    conv=>whnf
    refine ⟨hp0,?_⟩
    conv=>whnf
    refine ⟨?_,?_⟩
    rotate_left
    focus
     conv=>whnf
     refine ⟨by kernel_rfl,?_⟩
     conv=>whnf
     refine ⟨hp1,?_⟩
     conv=>whnf
     refine ⟨trivial,?_⟩
    rotate_right
    focus
     conv=>whnf
     refine ⟨?_,?_⟩
     rotate_left
     focus
      conv=>whnf
      refine ⟨by kernel_rfl,?_⟩
      conv=>whnf
      refine ⟨hp1,?_⟩
      conv=>whnf
      refine ⟨trivial,?_⟩
     rotate_right
     focus
      conv=>whnf
      refine ⟨by kernel_rfl,?_⟩
      conv=>whnf
      refine ⟨hp1,?_⟩
      conv=>whnf
      refine ⟨trivial,?_⟩
  all_goals
   conv=>whnf
   refine Yj h ?_
   rintro I2 μ2 ⟨i0,c0,⟨⟩⟩ zs2 h hI2 hR2
   change Ji d0 i0 c0=some zs2 at h
   unfold Ji at h
   conv=>whnf
   intro fp3
   conv=>whnf
   refine Zz h (fun h=>?_) (fun h=>?_)
   conv=>whnf
   refine vAt h (fun x0 he4a he4b he4x h=>?_)
   conv=>whnf
   refine Zl h (fun l02Ints0 hb5 h=>?_)
   conv=>whnf
   intro fp6
   conv=>whnf
   refine Qt h (fun hp7 h=>?_)
   conv=>whnf
   intro fp8
   conv=>whnf
   cases h
   exact ⟨⟨rfl,rfl⟩,hI2 _ rfl⟩
   conv=>whnf
   cases h
   obtain rfl:=hR2 _ rfl
   exact hK
theorem w53 (q0:Zc Tryz.prog 121 c43):Zc Tryz.prog 163 c53:=by
 refine Zg Zr (Ze q0 Zj) mixed {loops:=[(0,[.reg 6 (.dat (.int .i64))]),(2,[.reg 8 (.dat (.int .i64))]),(4,[.reg 9 (.dat (.int .i64))])],draws:=[(6,[0,1,0,4,12,28,63,127,255,511,1023,2047,511,4607,511,16895,61951,127487,258559,520703,1048575,2097151],.op 0 (.op 1 (.op 2 (.op 3 (.op 4 (.op 5 (.alt 6 (.op 7 (.op 8 (.op 9 (.op 10 (.op 11 (.op 12 (.op 13 (.op 14 (.op 15 (.op 16 (.op 17 (.op 18 (.op 19 (.op 20 (.op 21 (.done)))))))))))))))) (.done))))))))]} (fn:=Tryz.f163) Tryz.func163 (by kernel_rfl) (by kernel_rfl) ?_
 rintro ⟨a0,a1,⟨⟩⟩ K ⟨r,h,hK⟩
 change Zcq a0 a1=some r at h
 unfold Zcq at h
 conv=>whnf
 refine Yj h ?_
 rintro I0 μ0 ⟨v0,⟨⟩⟩ zs0 h hI0 hR0
 change JI a0 a1 v0=some zs0 at h
 unfold JI at h
 conv=>whnf
 refine Zz h (fun h=>?_) (fun h=>?_)
 conv=>whnf
 refine vAt h (fun x0 he1a he1b he1x h=>?_)
 conv=>whnf
 refine ⟨by kernel_rfl,?_⟩
 conv=>whnf
 refine Zl h (fun l01In0 hb2 h=>?_)
 conv=>whnf
 refine ZeX ?_
 refine YJ h (fun h=>?_) (fun h=>?_)
 conv=>whnf
 refine vAt h (fun x1 he3a he3b he3x h=>?_)
 conv=>whnf
 refine ⟨trivial,?_⟩
 conv=>whnf
 refine Yb ?_
 refine Zz h (fun h=>?_) (fun h=>?_)
 conv=>whnf
 refine Yj h ?_
 rintro I4 μ4 ⟨v1,⟨⟩⟩ zs4 h hI4 hR4
 change JA a1 v0 x0 v1=some zs4 at h
 unfold JA at h
 conv=>whnf
 refine Zz h (fun h=>?_) (fun h=>?_)
 conv=>whnf
 refine vAt h (fun x2 he5a he5b he5x h=>?_)
 conv=>whnf
 refine Zl h (fun l01In1 hb6 h=>?_)
 conv=>whnf
 refine Yb ?_
 refine YJ h (fun h=>?_) (fun h=>?_)
 conv=>whnf
 cases h
 exact ⟨⟨rfl,rfl⟩,hI4 _ rfl⟩
 conv=>whnf
 cases h
 obtain rfl:=hR4 _ rfl
 obtain rfl:=hR0 _ rfl
 exact hK
 conv=>whnf
 cases h
 obtain rfl:=hR4 _ rfl
 exact ⟨⟨rfl,rfl⟩,hI0 _ rfl⟩
 conv=>whnf
 cases h
 obtain rfl:=hR0 _ rfl
 exact hK
 conv=>whnf
 refine ⟨trivial,?_⟩
 conv=>whnf
 cases h
 obtain rfl:=hR0 _ rfl
 exact hK
 conv=>whnf
 refine Yj h ?_
 rintro I7 μ7 ⟨v1,⟨⟩⟩ zs7 h hI7 hR7
 change JE a1 v1=some zs7 at h
 unfold JE at h
 conv=>whnf
 refine Zz h (fun h=>?_) (fun h=>?_)
 conv=>whnf
 refine vAt h (fun x0 he8a he8b he8x h=>?_)
 conv=>whnf
 refine Zl h (fun l01In0 hb9 h=>?_)
 conv=>whnf
 refine ZeX ?_
 refine YJ h (fun h=>?_) (fun h=>?_)
 conv=>whnf
 refine ⟨he8a,he8b,Zp he8x ?_⟩
 conv=>whnf
 refine Zl h (fun l01In1 hb10 h=>?_)
 conv=>whnf
 refine Yb ?_
 refine YJ h (fun h=>?_) (fun h=>?_)
 conv=>whnf
 cases h
 exact ⟨⟨rfl,rfl⟩,hI7 _ rfl⟩
 conv=>whnf
 cases h
 obtain rfl:=hR7 _ rfl
 obtain rfl:=hR0 _ rfl
 exact hK
 conv=>whnf
 cases h
 obtain rfl:=hR7 _ rfl
 obtain rfl:=hR0 _ rfl
 exact hK
 conv=>whnf
 cases h
 obtain rfl:=hR7 _ rfl
 obtain rfl:=hR0 _ rfl
 exact hK
theorem w81:Zc Tryz.prog 145 c81:=by
 refine Zg Zr Zj mixed {} (fn:=Tryz.f145) Tryz.func145 (by kernel_rfl) (by kernel_rfl) ?_
 rintro ⟨sinks0,load0,⟨⟩⟩ K ⟨r,h,hK⟩
 change Zat sinks0 load0=some r at h
 unfold Zat at h
 conv=>whnf
 refine Qt h (fun hp0 h=>?_)
 conv=>whnf
 refine Qt h (fun hp1 h=>?_)
 conv=>whnf
 refine Qt h (fun hp2 h=>?_)
 conv=>whnf
 refine Qt h (fun hp3 h=>?_)
 conv=>whnf
 cases h
 exact hK
theorem w70:Zc Tryz.prog 122 c70:=by
 refine Zg Zr Zj mixed {loops:=[(0,[.reg 5 (.dat (.int .i64))])],draws:=[(6,[0,1,0,7,15,31,0,64,0,448,960,1984,4095],.op 0 (.op 1 (.op 2 (.op 3 (.op 4 (.op 5 (.op 6 (.op 7 (.op 8 (.op 9 (.op 10 (.op 11 (.op 12 (.done))))))))))))))]} (fn:=Tryz.f122) Tryz.func122 (by kernel_rfl) (by kernel_rfl) ?_
 rintro ⟨a0,b0,⟨⟩⟩ K ⟨r,h,hK⟩
 change Vo a0 b0=some r at h
 unfold Vo at h
 conv=>whnf
 refine ZeX ?_
 refine Zz h (fun h=>?_) (fun h=>?_)
 conv=>whnf
 refine Yb ?_
 refine Zz h (fun h=>?_) (fun h=>?_)
 conv=>whnf
 refine Yj h ?_
 rintro I0 μ0 ⟨i0,⟨⟩⟩ zs0 h hI0 hR0
 change Q8 a0 b0 i0=some zs0 at h
 unfold Q8 at h
 conv=>whnf
 refine Zz h (fun h=>?_) (fun h=>?_)
 conv=>whnf
 refine ⟨by kernel_rfl,?_⟩
 conv=>whnf
 refine vAt h (fun x0 he1a he1b he1x h=>?_)
 conv=>whnf
 refine vAt h (fun x1 he2a he2b he2x h=>?_)
 conv=>whnf
 refine ⟨trivial,?_⟩
 conv=>whnf
 refine Yb ?_
 refine YJ h (fun h=>?_) (fun h=>?_)
 conv=>whnf
 cases h
 exact ⟨⟨rfl,rfl⟩,hI0 _ rfl⟩
 conv=>whnf
 cases h
 obtain rfl:=hR0 _ rfl
 exact hK
 conv=>whnf
 cases h
 obtain rfl:=hR0 _ rfl
 exact hK
 conv=>whnf
 cases h
 exact hK
 conv=>whnf
 cases h
 exact hK
theorem w79 (q0:Zc Tryz.prog 78 c56) (q1:Zc Tryz.prog 79 c57):Zc Tryz.prog 80 c79:=by
 refine Zg Zr (Ze q0 (Ze q1 Zj)) mixed {loops:=[(0,[.reg 4 (.dat (.int .i64)),.ent 2 (nat_lit 2) (.flat Zsa.ety)]),(2,[.reg 6 (.dat (.int .i64)),.ent 2 (nat_lit 2) (.flat Zsa.ety)])],draws:=[(9,[0,0,0,6,14,0,32,0,224,480,992,0,4064,8160,16383,32767],.op 0 (.op 1 (.op 2 (.op 3 (.op 4 (.op 5 (.op 6 (.op 7 (.op 8 (.op 9 (.op 10 (.op 11 (.op 12 (.op 13 (.op 14 (.alt 15 (.done) (.done)))))))))))))))))]} (fn:=Tryz.f80) Tryz.func80 (by kernel_rfl) (by kernel_rfl) ?_
 rintro ⟨b0,⟨⟩⟩ K ⟨r,h,hK⟩
 change V6 b0=some r at h
 unfold V6 at h
 conv=>whnf
 refine Zl h (fun l05Places0 hb0 h=>?_)
 conv=>whnf
 refine Qt h (fun hp1 h=>?_)
 conv=>whnf
 refine Qt h (fun hp2 h=>?_)
 conv=>whnf
 refine Qt h (fun hp3 h=>?_)
 conv=>whnf
 refine Qt h (fun hp4 h=>?_)
 conv=>whnf
 refine Yj h ?_
 rintro I5 μ5 ⟨net0,l0,⟨⟩⟩ zs5 h hI5 hR5
 change JD b0 net0 l0=some zs5 at h
 unfold JD at h
 conv=>whnf
 refine Zz h (fun h=>?_) (fun h=>?_)
 conv=>whnf
 refine Zl h (fun l05Sinks0 hb6 h=>?_)
 conv=>whnf
 refine Yj h ?_
 rintro I7 μ7 ⟨i0,l1,⟨⟩⟩ zs7 h hI7 hR7
 change JG b0 net0 l05Sinks0 i0 l1=some zs7 at h
 unfold JG at h
 conv=>whnf
 refine Zz h (fun h=>?_) (fun h=>?_)
 conv=>whnf
 refine ⟨by kernel_rfl,?_⟩
 conv=>whnf
 refine vAt h (fun x0 he8a he8b he8x h=>?_)
 conv=>whnf
 refine ⟨by kernel_rfl,?_⟩
 conv=>whnf
 refine ⟨he8a,he8b,Zp he8x ?_⟩
 conv=>whnf
 refine vAt h (fun x1 he9a he9b he9x h=>?_)
 conv=>whnf
 refine vAt h (fun x2 he10a he10b he10x h=>?_)
 conv=>whnf
 refine vAt h (fun x3 he11a he11b he11x h=>?_)
 conv=>whnf
 refine ⟨by kernel_rfl,?_⟩
 conv=>whnf
 refine ⟨by decide,?_⟩
 conv=>whnf
 refine ⟨he11a,he11b,Zp he11x ?_⟩
 conv=>whnf
 refine ⟨trivial,?_⟩
 conv=>whnf
 cases h
 exact ⟨⟨rfl,rfl⟩,hI7 _ rfl⟩
 conv=>whnf
 cases h
 obtain rfl:=hR7 _ rfl
 exact ⟨⟨rfl,rfl⟩,hI5 _ rfl⟩
 conv=>whnf
 cases h
 obtain rfl:=hR5 _ rfl
 exact hK
theorem w84 (q3:Zc Tryz.prog 80 c79) (q4:Zc Tryz.prog 79 c57) (q1:Zc Tryz.prog 78 c56) (q0:Zc Tryz.prog 84 c80) (q5:Zc Tryz.prog 144 c60) (q2:Zc Tryz.prog 85 c82):Zc Tryz.prog 83 c84:=by
 refine Zg Ztg (Ze q3 (Ze q4 (Ze q1 (Ze q0 (Ze q5 (Ze q2 Zj)))))) mixed {draws:=[(7,[0,1,0,4,12,0,60,124,0,256,768,0,3840,7936,16128,32512,65280,131071],.op 0 (.op 1 (.op 2 (.op 3 (.op 5 (.op 8 (.op 9 (.op 10 (.op 11 (.op 12 (.op 13 (.op 14 (.op 15 (.op 16 (.alt 4 (.op 6 (.op 7 (.alt 17 (.done) (.done)))) (.done)))))))))))))))),(8,[0,0,2,7,15,0,0,96,255,511],.op 0 (.op 1 (.op 2 (.op 5 (.op 6 (.alt 3 (.alt 4 (.alt 7 (.alt 8 (.op 9 (.done)) (.done)) (.done)) (.alt 7 (.alt 4 (.alt 8 (.op 9 (.done)) (.done)) (.done)) (.done))) (.alt 7 (.alt 3 (.alt 4 (.alt 8 (.op 9 (.done)) (.done)) (.done)) (.done)) (.done)))))))),(9,[0,1,3,0,15,0,32,96,0,480,0,1024,3072,8191,0,32767],.op 0 (.op 1 (.op 2 (.op 3 (.op 5 (.op 6 (.op 7 (.op 8 (.op 10 (.op 11 (.op 12 (.alt 4 (.alt 9 (.op 13 (.alt 14 (.alt 15 (.done) (.done)) (.done))) (.alt 14 (.alt 9 (.op 13 (.alt 15 (.done) (.done))) (.done)) (.done))) (.alt 9 (.alt 4 (.op 13 (.alt 14 (.alt 15 (.done) (.done)) (.done))) (.alt 14 (.alt 4 (.op 13 (.alt 15 (.done) (.done))) (.done)) (.done))) (.alt 14 (.alt 4 (.alt 9 (.op 13 (.alt 15 (.done) (.done))) (.done)) (.alt 9 (.alt 4 (.op 13 (.alt 15 (.done) (.done))) (.done)) (.done))) (.done))))))))))))))),(10,[0,1,0,0,8,0,56,127,0,511,1023],.op 0 (.op 1 (.op 2 (.op 3 (.op 4 (.op 5 (.op 8 (.alt 6 (.op 7 (.alt 9 (.alt 10 (.done) (.done)) (.done))) (.done)))))))))]} (fn:=Tryz.f83) Tryz.func83 (by kernel_rfl) (by kernel_rfl) ?_
 rintro ⟨a0,⟨⟩⟩ K ⟨r,h,hK⟩
 change Zbo a0=some r at h
 unfold Zbo at h
 focus
  conv=>whnf
  intro fp0
  conv=>whnf
  intro fp1
  conv=>whnf
  intro fp2
  conv=>whnf
  refine Zl h (fun l08Nodes0 hb3 h=>?_)
  conv=>whnf
  refine Zl h (fun l05Sinks0 hb4 h=>?_)
  conv=>whnf
  refine vAt h (fun x0 he5a he5b he5x h=>?_)
  conv=>whnf
  refine ⟨by kernel_rfl,?_⟩
  conv=>whnf
  refine ⟨he5a,he5b,Zp he5x ?_⟩
  conv=>whnf
  refine vAt h (fun x1 he6a he6b he6x h=>?_)
  conv=>whnf
  refine ⟨by kernel_rfl,?_⟩
  conv=>whnf
  refine ⟨he6a,he6b,Zp he6x ?_⟩
  conv=>whnf
  refine vAt h (fun x2 he7a he7b he7x h=>?_)
  conv=>whnf
  refine ⟨by kernel_rfl,?_⟩
  conv=>whnf
  refine ⟨by decide,?_⟩
  conv=>whnf
  refine ⟨he7a,he7b,Zp he7x ?_⟩
  conv=>whnf
  refine ⟨by kernel_rfl,?_⟩
  conv=>whnf
  refine vAt h (fun x3 he8a he8b he8x h=>?_)
  conv=>whnf
  refine ⟨he8a,he8b,Zp he8x ?_⟩
  conv=>whnf
  intro fp9
  conv=>whnf
  refine vAt h (fun x4 he10a he10b he10x h=>?_)
  conv=>whnf
  refine ⟨by kernel_rfl,?_⟩
  conv=>whnf
  refine ⟨he10a,he10b,Zp he10x ?_⟩
  conv=>whnf
  refine Zl h (fun l05Places0 hb11 h=>?_)
  conv=>whnf
  refine vAt h (fun x5 he12a he12b he12x h=>?_)
  conv=>whnf
  refine ⟨by kernel_rfl,?_⟩
  conv=>whnf
  refine ⟨he12a,he12b,Zp he12x ?_⟩
  conv=>whnf
  refine Zl h (fun l08Connect0 hb13 h=>?_)
  conv=>whnf
  intro fp14
  conv=>whnf
  refine ⟨trivial,?_⟩
  conv=>whnf
  refine ⟨by kernel_rfl,?_⟩
  conv=>whnf
  obtain ⟨hp15,h⟩:=guardE h
  obtain ⟨hp16,h⟩:=guardE h
  obtain ⟨l02Ints0,hb17,h⟩:=Option.bind_eq_some_iff.1 h
  obtain ⟨hp18,h⟩:=guardE h
  obtain ⟨hp19,h⟩:=guardE h
  obtain ⟨hp20,h⟩:=guardE h
  obtain ⟨hp21,h⟩:=guardE h
  refine ⟨?_,?_⟩
  rotate_left
  focus
   conv=>whnf
   refine ⟨hp18,?_⟩
   conv=>whnf
   refine ⟨hp19,?_⟩
   conv=>whnf
   refine ⟨hp20,?_⟩
   conv=>whnf
   refine ⟨by decide,?_⟩
   conv=>whnf
   refine ⟨hp15,?_⟩
   conv=>whnf
   refine ⟨hp16,?_⟩
   conv=>whnf
   refine ⟨_,hb17,?_⟩
   conv=>whnf
   refine ⟨hp21,?_⟩
   conv=>whnf
   refine ⟨trivial,?_⟩
  rotate_right
  focus
   conv=>whnf
   refine ⟨by decide,?_⟩
   conv=>whnf
   refine ⟨hp15,?_⟩
   conv=>whnf
   refine ⟨hp16,?_⟩
   conv=>whnf
   refine ⟨?_,?_⟩
   rotate_left
   focus
    conv=>whnf
    refine ⟨hp18,?_⟩
    conv=>whnf
    refine ⟨hp19,?_⟩
    conv=>whnf
    refine ⟨hp20,?_⟩
    conv=>whnf
    refine ⟨_,hb17,?_⟩
    conv=>whnf
    refine ⟨hp21,?_⟩
    conv=>whnf
    refine ⟨trivial,?_⟩
   rotate_right
   focus
    conv=>whnf
    refine ⟨_,hb17,?_⟩
    conv=>whnf
    refine ⟨hp18,?_⟩
    conv=>whnf
    refine ⟨hp19,?_⟩
    conv=>whnf
    refine ⟨hp20,?_⟩
    conv=>whnf
    refine ⟨hp21,?_⟩
    conv=>whnf
    refine ⟨trivial,?_⟩
  all_goals
   focus
    conv=>whnf
    refine ⟨by kernel_rfl,?_⟩
    conv=>whnf
    obtain ⟨hp22,h⟩:=guardE h
    obtain ⟨hp23,h⟩:=guardE h
    obtain ⟨hp25,h⟩:=guardE h
    obtain ⟨hp26,h⟩:=guardE h
    refine ⟨?_,?_⟩
    rotate_left
    focus
     conv=>whnf
     refine ⟨?_,?_⟩
     rotate_left
     focus
      conv=>whnf
      refine ⟨?_,?_⟩
      rotate_left
      focus
       conv=>whnf
       refine ⟨by decide,?_⟩
       conv=>whnf
       refine ⟨hp25,?_⟩
       conv=>whnf
       refine ⟨hp26,?_⟩
       conv=>whnf
       refine ⟨by decide,?_⟩
       conv=>whnf
       refine ⟨hp22,?_⟩
       conv=>whnf
       refine ⟨hp23,?_⟩
       conv=>whnf
       intro fp33
       conv=>whnf
       refine ⟨trivial,?_⟩
      rotate_right
      focus
       conv=>whnf
       refine ⟨by decide,?_⟩
       conv=>whnf
       refine ⟨hp22,?_⟩
       conv=>whnf
       refine ⟨hp23,?_⟩
       conv=>whnf
       intro fp33
       conv=>whnf
       refine ⟨by decide,?_⟩
       conv=>whnf
       refine ⟨hp25,?_⟩
       conv=>whnf
       refine ⟨hp26,?_⟩
       conv=>whnf
       refine ⟨trivial,?_⟩
     rotate_right
     focus
      conv=>whnf
      refine ⟨by decide,?_⟩
      conv=>whnf
      refine ⟨hp25,?_⟩
      conv=>whnf
      refine ⟨hp26,?_⟩
      conv=>whnf
      refine ⟨?_,?_⟩
      rotate_left
      focus
       conv=>whnf
       refine ⟨by decide,?_⟩
       conv=>whnf
       refine ⟨hp22,?_⟩
       conv=>whnf
       refine ⟨hp23,?_⟩
       conv=>whnf
       intro fp33
       conv=>whnf
       refine ⟨trivial,?_⟩
      rotate_right
      focus
       conv=>whnf
       refine ⟨by decide,?_⟩
       conv=>whnf
       refine ⟨hp22,?_⟩
       conv=>whnf
       refine ⟨hp23,?_⟩
       conv=>whnf
       intro fp33
       conv=>whnf
       refine ⟨trivial,?_⟩
    rotate_right
    focus
     conv=>whnf
     refine ⟨by decide,?_⟩
     conv=>whnf
     refine ⟨hp22,?_⟩
     conv=>whnf
     refine ⟨hp23,?_⟩
     conv=>whnf
     intro fp33
     conv=>whnf
     refine ⟨?_,?_⟩
     rotate_left
     focus
      conv=>whnf
      refine ⟨by decide,?_⟩
      conv=>whnf
      refine ⟨hp25,?_⟩
      conv=>whnf
      refine ⟨hp26,?_⟩
      conv=>whnf
      refine ⟨trivial,?_⟩
     rotate_right
     focus
      conv=>whnf
      refine ⟨by decide,?_⟩
      conv=>whnf
      refine ⟨hp25,?_⟩
      conv=>whnf
      refine ⟨hp26,?_⟩
      conv=>whnf
      refine ⟨trivial,?_⟩
    all_goals
     conv=>whnf
     refine ⟨by kernel_rfl,?_⟩
     conv=>whnf
     refine ⟨by decide,?_⟩
     conv=>whnf
     refine ⟨hp25,?_⟩
     conv=>whnf
     refine Qt h (fun hp27 h=>?_)
     conv=>whnf
     intro fp28
     conv=>whnf
     refine Zl h (fun l08Attach0 hb29 h=>?_)
     conv=>whnf
     intro fp30
     conv=>whnf
     intro fp31
     conv=>whnf
     intro fp32
     conv=>whnf
     refine ⟨trivial,?_⟩
     conv=>whnf
     cases h
     exact hK
end Go.Proofs.YtehkanadahncgaaGreatDoor
