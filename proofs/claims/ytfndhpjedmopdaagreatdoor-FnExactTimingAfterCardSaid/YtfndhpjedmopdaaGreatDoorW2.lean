/-
  The functions keep their contracts, if what they call does. Printed by program.
-/
import Derived.Test.YtfndhpjedmopdaaGreatDoorM
import Derived.KernelRfl
namespace Go.Proofs.YtfndhpjedmopdaaGreatDoor
open Go Go.Sx
set_option maxRecDepth 100000
set_option maxHeartbeats 3200000
set_option linter.unusedVariables false
set_option linter.unusedSimpArgs false
structure Ws2:Prop where
 w168:Zc Tryz.prog 192 ZxX→Zc Tryz.prog 222 Zzv→Zc Tryz.prog 226 c168
 w220:Zc Tryz.prog 289 ZAl→Zc Tryz.prog 260 ZAS
 w217:Zc Tryz.prog 30 ZxT
 w213:Zc Tryz.prog 132 c212→Zc Tryz.prog 67 c213
 w238:Zc Tryz.prog 31 Zxo→Zc Tryz.prog 231 ZAV
 w57:Zc Tryz.prog 198 c56→Zc Tryz.prog 141 c57
set_option maxHeartbeats 100000000 in
theorem ws2:Ws2:=by
 refine ⟨(fun q0 q1=>Zf Zq (Ze q0 (Ze q1 Zj)) mixed {draws:=[(6,[0,1,3,0,8,31,63,127,255,511,1023,2047,4095,8191,1023,32767,65535,131071,262143,524287,1048575,2097151,262143,8388607,16777215,33554431,67108863,134217727,67108863,536870911,1073741823,67108863,2214592511,8589934591,17179869183],.op 0 (.op 1 (.op 2 (.op 3 (.op 4 (.op 5 (.op 6 (.alt 7 (.op 8 (.op 9 (.op 10 (.op 11 (.op 12 (.op 13 (.op 14 (.op 15 (.op 16 (.op 17 (.op 18 (.op 19 (.op 20 (.op 21 (.op 22 (.op 23 (.op 24 (.op 25 (.op 26 (.op 27 (.op 28 (.op 29 (.op 30 (.op 31 (.op 32 (.op 33 (.op 34 (.done)))))))))))))))))))))))))))) (.done)))))))))]} (fn:=Tryz.f226) Tryz.func226 (by kernel_rfl) (by kernel_rfl) ?_),
 (fun q0=>Zf Zq (Ze q0 Zj) mixed {} (fn:=Tryz.f260) Tryz.func260 (by kernel_rfl) (by kernel_rfl) ?_),
 (Zf Zq Zj mixed {loops:=[(0,[.reg 5 (.dat (.int .i64))])],draws:=[(6,[0,0,3,7,0,0,48,112,255],.op 0 (.op 1 (.op 2 (.op 3 (.op 4 (.op 5 (.op 6 (.op 7 (.op 8 (.done))))))))))]} (fn:=Tryz.f30) Tryz.func30 (by kernel_rfl) (by kernel_rfl) ?_),
 (fun q0=>Zf Zq (Ze q0 Zj) mixed {loops:=[(0,[.reg 5 (.dat (.int .i64))])],draws:=[(6,[0,0,3,7,0,0,48,112,255,511],.op 0 (.op 1 (.op 2 (.op 3 (.op 4 (.op 5 (.op 6 (.op 7 (.alt 8 (.op 9 (.done)) (.done))))))))))]} (fn:=Tryz.f67) Tryz.func67 (by kernel_rfl) (by kernel_rfl) ?_),
 (fun q0=>Zf YO (Ze q0 Zj) mixed {loops:=[(0,[.reg 1 (.dat (.int .i64)),.reg 5 (.dat (.int .i64)),.ent 0 (nat_lit 290) (Dp.pair (Dp.ol (2:Go.TypeId) (Dp.flat (Ty.int IntKind.i64))) (Dp.pair (Dp.ol (2:Go.TypeId) (Dp.flat (Ty.int IntKind.i64))) (Dp.pair (Dp.ol (2:Go.TypeId) (Dp.flat (Ty.int IntKind.i64))) (Dp.flat Ty.unit))))])]} (fn:=Tryz.f231) Tryz.func231 (by kernel_rfl) (by kernel_rfl) ?_),
 (fun q0=>Zf Zq (Ze q0 Zj) mixed {loops:=[(0,[.reg 3 (.dat (.int .i64))]),(2,[.reg 4 (.dat (.int .i64))])],draws:=[(9,[0,1,0,7,15,31,0,64,0,448,960,1984,4095],.op 0 (.op 1 (.op 2 (.op 3 (.op 4 (.op 5 (.op 6 (.op 7 (.op 8 (.op 9 (.op 10 (.op 11 (.op 12 (.done))))))))))))))]} (fn:=Tryz.f141) Tryz.func141 (by kernel_rfl) (by kernel_rfl) ?_)⟩
 all_goals
  intro a
  repeat rcases a with ⟨_,a⟩
  rintro K ⟨r,h,hK⟩
  repeat'
    conv=>whnf
    first
    | with_reducible refine Ztb ?_
    | with_reducible refine Zk8 (by assumption) (by assumption) (by assumption) ?_
    | with_reducible refine Zv (by assumption) ?_
    | with_reducible refine Zk5 (by assumption) ?_
    | (with_reducible refine shD ?_);first | refine ZC h (fun h=>?_) (fun h=>?_) | refine ZiY h (fun h=>?_) (fun h=>?_)
    | (with_reducible refine ZsW ?_);first | refine Zel ?_ | refine Ya ?_
    | (with_reducible refine ZxR ?_);first | refine YN h (fun h=>?_) (fun h=>?_) | refine Ztq h (fun h=>?_) (fun h=>?_)
    | (with_reducible refine ZxY ?_);first | refine Zl h (fun x hb h=>?_) | (obtain ⟨x,hb,h⟩:=ZfA h) | (obtain ⟨hp,h⟩:=guardE h)
    | (with_reducible refine ZxV ?_);first | refine vAt h (fun x ha hb hx h=>?_) | (obtain ⟨x,ha,hb,hx,h⟩:=atE h) | (obtain ⟨x,hb,h⟩:=ZfA h) | (obtain ⟨hp,h⟩:=guardE h)
    | (with_reducible refine Zs0 ?_);first | refine Zs7 h (fun x hb h=>?_) | (obtain ⟨x,ha,hb,hx,h⟩:=atE h) | (obtain ⟨x,hb,h⟩:=ZfA h) | (obtain ⟨hp,h⟩:=guardE h)
    | with_reducible refine ZxZ ?_
    | (with_reducible refine ZoS ?_);refine ZoR h hK ?_;clear h hK;intro I μ v r h hK;(repeat rcases v with ⟨_,v⟩);(try dsimp only at h)
    | with_reducible refine ⟨by assumption,?_⟩
    | with_reducible refine orL ?_
    | with_reducible refine .inr ?_
    | (with_reducible refine Ztp ?_);first | refine ⟨?_,True.intro⟩ | refine ⟨?_,?_⟩
    | refine ⟨by kernel_rfl,?_⟩
    | refine ⟨by decide,?_⟩
    | refine YU h (fun hp h=>?_)
    | intro fp
    | exact trivial
    | with_reducible exact Ztf h
    | obtain rfl:=Option.some.inj h;repeat (first | exact hK | exact ⟨⟨rfl,rfl⟩,hK.1 _ rfl⟩ | (obtain ⟨_,e,hK⟩:=hK;obtain rfl:=e _ rfl))
    | (obtain ⟨x,ha,hb,hx,h⟩:=atE h)
    | (obtain ⟨x,hb,h⟩:=ZfA h)
    | (obtain ⟨hp,h⟩:=guardE h)
theorem ZFG (q1:Zc Tryz.prog 164 Zyz) (q2:Zc Tryz.prog 119 ZsN) (q3:Zc Tryz.prog 192 ZxX) (q0:Zc Tryz.prog 191 Zzu) (q5:Zc Tryz.prog 166 c201) (q4:Zc Tryz.prog 167 ZyL):Zc Tryz.prog 165 c203:=by
 refine Zf YO (Ze q1 (Ze q2 (Ze q3 (Ze q0 (Ze q5 (Ze q4 Zj)))))) mixed {draws:=[(2,[0,1,3,7,15,0,32,127,255,0,1023],.op 0 (.op 1 (.op 2 (.op 3 (.op 5 (.op 6 (.alt 4 (.op 7 (.op 8 (.alt 9 (.alt 10 (.done) (.done)) (.done)))) (.alt 9 (.alt 4 (.op 7 (.op 8 (.alt 10 (.done) (.done)))) (.done)) (.done))))))))),(4,[0,1,3,7,15,31,0,64,192,448,960,2047,4095,8191],.op 0 (.op 1 (.op 2 (.op 3 (.op 4 (.op 6 (.op 7 (.op 8 (.op 9 (.op 10 (.alt 5 (.alt 11 (.op 12 (.op 13 (.done))) (.done)) (.done)))))))))))),(5,[0,0,2,6,14,30,0,64,0,256,0,1024,0,7168,16320,32704,65534,131071,262143,524287,1048575],.op 0 (.op 1 (.op 2 (.op 3 (.op 4 (.op 5 (.op 6 (.op 7 (.op 8 (.op 9 (.op 10 (.op 11 (.op 12 (.alt 13 (.op 14 (.alt 15 (.alt 16 (.op 17 (.op 18 (.op 19 (.alt 20 (.done) (.done))))) (.done)) (.done))) (.done))))))))))))))),(6,[0,0,2,6,14,30,0,64,192,510,1023,2047,4095,8191],.op 0 (.op 1 (.op 2 (.op 3 (.op 4 (.op 5 (.op 6 (.op 7 (.alt 8 (.alt 9 (.op 10 (.op 11 (.op 12 (.alt 13 (.done) (.done))))) (.done)) (.done))))))))))]} (fn:=Tryz.f165) Tryz.func165 (by kernel_rfl) (by kernel_rfl) ?_
 rintro ⟨a0,a1,⟨⟩⟩ K ⟨r,h,hK⟩
 change Jj a0 a1=some r at h
 unfold Jj at h
 focus
  conv=>whnf
  intro fp0
  conv=>whnf
  intro fp1
  conv=>whnf
  intro fp2
  conv=>whnf
  refine Zl h (fun nodesOf0 hb3 h=>?_)
  conv=>whnf
  refine ⟨by kernel_rfl,?_⟩
  conv=>whnf
  obtain ⟨places0,hb4,h⟩:=Option.bind_eq_some_iff.1 h
  obtain ⟨x0,he5a,he5b,he5x,h⟩:=atE h
  refine ⟨?_,?_⟩
  rotate_left
  focus
   conv=>whnf
   refine ⟨_,hb4,?_⟩
   conv=>whnf
   refine ⟨he5a,he5b,Zv he5x ?_⟩
   conv=>whnf
   refine ⟨by kernel_rfl,?_⟩
   conv=>whnf
   refine ⟨he5a,he5b,Zv he5x ?_⟩
   conv=>whnf
   refine ⟨trivial,?_⟩
  rotate_right
  focus
   conv=>whnf
   refine ⟨_,hb4,?_⟩
   conv=>whnf
   refine ⟨he5a,he5b,Zv he5x ?_⟩
   conv=>whnf
   refine ⟨by kernel_rfl,?_⟩
   conv=>whnf
   refine ⟨he5a,he5b,Zv he5x ?_⟩
   conv=>whnf
   refine ⟨trivial,?_⟩
  all_goals
   conv=>whnf
   refine ⟨by kernel_rfl,?_⟩
   conv=>whnf
   refine Zl h (fun string0 hb6 h=>?_)
   conv=>whnf
   refine Zl h (fun Instance0 hb7 h=>?_)
   conv=>whnf
   refine ⟨trivial,?_⟩
   conv=>whnf
   refine ⟨by kernel_rfl,?_⟩
   conv=>whnf
   intro fp8
   conv=>whnf
   refine YU h (fun hp9 h=>?_)
   conv=>whnf
   intro fp10
   conv=>whnf
   refine ⟨trivial,?_⟩
   conv=>whnf
   refine ⟨by kernel_rfl,?_⟩
   conv=>whnf
   refine YU h (fun hp11 h=>?_)
   conv=>whnf
   refine ⟨trivial,?_⟩
   conv=>whnf
   intro fp12
   conv=>whnf
   refine YU h (fun hp13 h=>?_)
   conv=>whnf
   intro fp14
   conv=>whnf
   refine Zl h (fun setNet0 hb15 h=>?_)
   conv=>whnf
   intro fp16
   conv=>whnf
   intro fp17
   conv=>whnf
   intro fp18
   conv=>whnf
   refine Zl h (fun connect0 hb19 h=>?_)
   conv=>whnf
   intro fp20
   conv=>whnf
   intro fp21
   conv=>whnf
   intro fp22
   conv=>whnf
   cases h
   exact hK
theorem ZB0 (q0:Zc Tryz.prog 157 ZA0) (q1:Zc Tryz.prog 158 c196) (q2:Zc Tryz.prog 159 Zy4):Zc Tryz.prog 92 c198:=by
 refine Zf YO (Ze q0 (Ze q1 (Ze q2 Zj))) mixed {loops:=[(0,[.reg 16 (.dat (.int .i64)),.cello 1003 4 (.ol 72 (ZiZ))])],draws:=[(1,[0,1,3,0,8,31,63,0,255],.op 0 (.op 1 (.op 3 (.op 4 (.alt 2 (.alt 5 (.op 6 (.alt 7 (.alt 8 (.done) (.done)) (.done))) (.alt 7 (.alt 5 (.op 6 (.alt 8 (.done) (.done))) (.done)) (.done))) (.alt 7 (.alt 2 (.alt 5 (.op 6 (.alt 8 (.done) (.done))) (.done)) (.done)) (.done))))))),(5,[0,1,0,4,12,31,63,127],.op 0 (.op 1 (.op 2 (.alt 3 (.alt 4 (.alt 5 (.op 6 (.alt 7 (.done) (.done))) (.done)) (.done)) (.done)))))]} (fn:=Tryz.f92) Tryz.func92 (by kernel_rfl) (by kernel_rfl) ?_
 rintro ⟨b0,⟨⟩⟩ K ⟨r,h,hK⟩
 change J7 b0=some r at h
 unfold J7 at h
 focus
  conv=>whnf
  refine ⟨by kernel_rfl,?_⟩
  conv=>whnf
  obtain ⟨cloneLibrary0,hb0,h⟩:=Option.bind_eq_some_iff.1 h
  obtain ⟨clone0,hb2,h⟩:=Option.bind_eq_some_iff.1 h
  refine ⟨?_,?_⟩
  rotate_left
  focus
   conv=>whnf
   refine ⟨_,hb0,?_⟩
   conv=>whnf
   intro fp12
   conv=>whnf
   refine ⟨_,hb2,?_⟩
   conv=>whnf
   intro fp13
   conv=>whnf
   refine ⟨trivial,?_⟩
  rotate_right
  focus
   conv=>whnf
   refine ⟨_,hb0,?_⟩
   conv=>whnf
   intro fp12
   conv=>whnf
   refine ⟨?_,?_⟩
   rotate_left
   focus
    conv=>whnf
    refine ⟨_,hb2,?_⟩
    conv=>whnf
    intro fp13
    conv=>whnf
    refine ⟨trivial,?_⟩
   rotate_right
   focus
    conv=>whnf
    refine ⟨_,hb2,?_⟩
    conv=>whnf
    intro fp13
    conv=>whnf
    refine ⟨trivial,?_⟩
  all_goals
   conv=>whnf
   refine Yu h ?_
   rintro I4 μ4 ⟨v0,c0,⟨⟩⟩ zs4 h hI4 hR4
   change XR b0 cloneLibrary0 clone0 v0 c0=some zs4 at h
   unfold XR at h
   conv=>whnf
   intro fp5
   conv=>whnf
   refine ZC h (fun h=>?_) (fun h=>?_)
   conv=>whnf
   refine vAt h (fun x0 he6a he6b he6x h=>?_)
   conv=>whnf
   refine ⟨by kernel_rfl,?_⟩
   conv=>whnf
   refine Zl h (fun clone1 hb7 h=>?_)
   conv=>whnf
   intro fp8
   conv=>whnf
   refine YU h (fun hp9 h=>?_)
   conv=>whnf
   intro fp10
   conv=>whnf
   refine ⟨trivial,?_⟩
   conv=>whnf
   cases h
   exact ⟨⟨rfl,rfl⟩,hI4 _ rfl⟩
   conv=>whnf
   cases h
   obtain rfl:=hR4 _ rfl
   exact hK
theorem ZCH (q0:Zc Tryz.prog 301 ZBq):Zc Tryz.prog 304 ZAJ:=by
 refine Zf Zq (Ze q0 Zj) mixed {} (fn:=Tryz.f304) Tryz.func304 (by kernel_rfl) (by kernel_rfl) ?_
 rintro ⟨c0,kind0,⟨⟩⟩ K ⟨r,h,hK⟩
 change QG c0 kind0=some r at h
 unfold QG at h
 conv=>whnf
 refine Zl h (fun c1_0 hb0 h=>?_)
 conv=>whnf
 cases h
 exact hK
theorem ZDv (q4:Zc Tryz.prog 313 c107) (q3:Zc Tryz.prog 314 ZAE) (q2:Zc Tryz.prog 315 Zz5) (q0:Zc Tryz.prog 316 ZzQ) (q1:Zc Tryz.prog 303 c124) (q5:Zc Tryz.prog 209 Zrh):Zc Tryz.prog 300 ZAq:=by
 refine Zf Zq (Ze q4 (Ze q3 (Ze q2 (Ze q0 (Ze q1 (Ze q5 Zj)))))) mixed {draws:=[(2,[0,1,3,7,15,31,63,127,255,511,1023,2047,4095,8191,16383,32767,65535,32767,163839,524287,1048575,2097151,4194303,8388607,16777215,33554431,67108863,134217727,134217727,402653183,1073741823,2147483647,4294967295,8589934591,17179869183,8589934591,42949672959,137438953471,274877906943,549755813887],.op 0 (.op 1 (.op 2 (.op 3 (.op 4 (.op 5 (.op 6 (.op 7 (.op 8 (.op 9 (.op 10 (.op 11 (.alt 12 (.op 13 (.op 14 (.op 15 (.op 16 (.op 17 (.alt 18 (.op 19 (.op 20 (.op 21 (.op 22 (.op 23 (.op 24 (.op 25 (.op 26 (.op 27 (.op 28 (.op 29 (.alt 30 (.op 31 (.op 32 (.op 33 (.op 34 (.op 35 (.op 36 (.op 37 (.op 38 (.op 39 (.done)))))))))) (.done))))))))))))) (.done))))))) (.done)))))))))))))),(3,[0,1,3,7,15,31,63,127,255,511,1023,2047,4095,2047,10239,32767,65535,131071,262143,262143,786431,2097151,4194303,8388607],.op 0 (.op 1 (.alt 2 (.op 3 (.op 4 (.op 5 (.op 6 (.alt 7 (.op 8 (.op 9 (.op 10 (.op 11 (.op 12 (.op 13 (.alt 14 (.op 15 (.op 16 (.op 17 (.op 18 (.op 19 (.op 20 (.alt 21 (.op 22 (.op 23 (.done))) (.done)))))))) (.done)))))))) (.done)))))) (.done))))]} (fn:=Tryz.f300) Tryz.func300 (by kernel_rfl) (by kernel_rfl) ?_
 rintro ⟨a0,a1,⟨⟩⟩ K ⟨r,h,hK⟩
 change ZaP a0 a1=some r at h
 unfold ZaP at h
 conv=>whnf
 refine Zl h (fun isCheck0 hb0 h=>?_)
 conv=>whnf
 refine YN h (fun h=>?_) (fun h=>?_)
 conv=>whnf
 refine ⟨by kernel_rfl,?_⟩
 conv=>whnf
 refine ZC h (fun h=>?_) (fun h=>?_)
 conv=>whnf
 refine ZC h (fun h=>?_) (fun h=>?_)
 conv=>whnf
 refine Zl h (fun areTables0 hb1 h=>?_)
 conv=>whnf
 refine YN h (fun h=>?_) (fun h=>?_)
 conv=>whnf
 refine Zl h (fun clock0 hb2 h=>?_)
 conv=>whnf
 refine ZC h (fun h=>?_) (fun h=>?_)
 conv=>whnf
 refine ZC h (fun h=>?_) (fun h=>?_)
 conv=>whnf
 refine Zl h (fun isInput0 hb3 h=>?_)
 conv=>whnf
 refine YN h (fun h=>?_) (fun h=>?_)
 conv=>whnf
 refine ⟨trivial,?_⟩
 conv=>whnf
 cases h
 exact hK
 conv=>whnf
 refine ⟨trivial,?_⟩
 conv=>whnf
 cases h
 exact hK
 conv=>whnf
 refine ⟨trivial,?_⟩
 conv=>whnf
 cases h
 exact hK
 conv=>whnf
 refine ⟨trivial,?_⟩
 conv=>whnf
 cases h
 exact hK
 conv=>whnf
 refine ⟨trivial,?_⟩
 conv=>whnf
 cases h
 exact hK
 conv=>whnf
 refine ⟨trivial,?_⟩
 conv=>whnf
 cases h
 exact hK
 conv=>whnf
 refine ⟨trivial,?_⟩
 conv=>whnf
 cases h
 exact hK
 conv=>whnf
 refine ⟨by kernel_rfl,?_⟩
 conv=>whnf
 refine Zl h (fun areTables0 hb4 h=>?_)
 conv=>whnf
 refine Zel ?_
 refine YN h (fun h=>?_) (fun h=>?_)
 conv=>whnf
 refine Zl h (fun areTables1 hb5 h=>?_)
 conv=>whnf
 refine Zel ?_
 refine YN h (fun h=>?_) (fun h=>?_)
 conv=>whnf
 refine Zl h (fun output0 hb6 h=>?_)
 conv=>whnf
 refine Zel ?_
 refine ZC h (fun h=>?_) (fun h=>?_)
 conv=>whnf
 refine Zl h (fun isInput0 hb7 h=>?_)
 conv=>whnf
 refine ⟨trivial,?_⟩
 conv=>whnf
 refine Ya ?_
 refine YN h (fun h=>?_) (fun h=>?_)
 conv=>whnf
 refine ZC h (fun h=>?_) (fun h=>?_)
 conv=>whnf
 refine vAt h (fun x0 he8a he8b he8x h=>?_)
 conv=>whnf
 refine Ya ?_
 refine YN h (fun h=>?_) (fun h=>?_)
 conv=>whnf
 cases h
 exact hK
 conv=>whnf
 refine Zl h (fun within0 hb9 h=>?_)
 conv=>whnf
 cases h
 exact hK
 conv=>whnf
 refine ZC h (fun h=>?_) (fun h=>?_)
 conv=>whnf
 refine ZC h (fun h=>?_) (fun h=>?_)
 conv=>whnf
 refine vAt h (fun x0 he10a he10b he10x h=>?_)
 conv=>whnf
 refine YN h (fun h=>?_) (fun h=>?_)
 conv=>whnf
 cases h
 exact hK
 conv=>whnf
 cases h
 exact hK
 conv=>whnf
 cases h
 exact hK
 conv=>whnf
 refine ZC h (fun h=>?_) (fun h=>?_)
 conv=>whnf
 refine vAt h (fun x0 he11a he11b he11x h=>?_)
 conv=>whnf
 refine YN h (fun h=>?_) (fun h=>?_)
 conv=>whnf
 cases h
 exact hK
 conv=>whnf
 cases h
 exact hK
 conv=>whnf
 cases h
 exact hK
 conv=>whnf
 cases h
 exact hK
 conv=>whnf
 refine ⟨trivial,?_⟩
 conv=>whnf
 cases h
 exact hK
 conv=>whnf
 refine ⟨trivial,?_⟩
 conv=>whnf
 cases h
 exact hK
 conv=>whnf
 refine ⟨trivial,?_⟩
 conv=>whnf
 cases h
 exact hK
theorem ZEu (q0:Zc Tryz.prog 258 Zzt):Zc Tryz.prog 225 c167:=by
 refine Zf Zq (Ze q0 Zj) mixed {} (fn:=Tryz.f225) Tryz.func225 (by kernel_rfl) (by kernel_rfl) ?_
 rintro ⟨d0,name0,⟨⟩⟩ K ⟨r,h,hK⟩
 change QU d0 name0=some r at h
 unfold QU at h
 conv=>whnf
 refine Zl h (fun string0 hb0 h=>?_)
 conv=>whnf
 cases h
 exact hK
theorem ZDG (q7:Zc Tryz.prog 209 Zrh) (q5:Zc Tryz.prog 219 c154) (q6:Zc Tryz.prog 218 c157) (q2:Zc Tryz.prog 119 ZsN) (q0:Zc Tryz.prog 188 Zzy) (q1:Zc Tryz.prog 220 c139) (q3:Zc Tryz.prog 206 c141) (q4:Zc Tryz.prog 121 Zxi):Zc Tryz.prog 160 c159:=by
 refine Zf Zq (Ze q7 (Ze q5 (Ze q6 (Ze q2 (Ze q0 (Ze q1 (Ze q3 (Ze q4 Zj)))))))) mixed {draws:=[(1,[0,1,3,7,15,31,31,95,255,511,1023],.op 0 (.op 1 (.alt 2 (.op 3 (.op 4 (.op 5 (.op 6 (.alt 7 (.alt 8 (.op 9 (.op 10 (.done))) (.done)) (.done)))))) (.done)))),(3,[0,1,0,4,12,28,60,127,255],.op 0 (.op 1 (.op 2 (.op 3 (.alt 4 (.alt 5 (.op 6 (.alt 7 (.op 8 (.done)) (.done))) (.done)) (.done)))))),(7,[0,1,3,7,3,19,51,115,243,511,1023,2047],.op 0 (.op 1 (.op 2 (.op 3 (.op 4 (.op 5 (.op 6 (.alt 7 (.op 8 (.alt 9 (.op 10 (.op 11 (.done))) (.done))) (.done))))))))),(9,[0,1,3,7,3,19,63,127,255,511,1023,511,2559,511,8703,31231,63999,129535,260607,522751,1048575,2097151,4194303],.op 0 (.op 1 (.op 2 (.op 3 (.op 4 (.op 5 (.alt 6 (.op 7 (.op 8 (.op 9 (.op 10 (.op 11 (.op 12 (.op 13 (.op 14 (.op 15 (.op 16 (.op 17 (.alt 18 (.op 19 (.alt 20 (.op 21 (.op 22 (.done))) (.done))) (.done))))))))))))) (.done))))))))]} (fn:=Tryz.f160) Tryz.func160 (by kernel_rfl) (by kernel_rfl) ?_
 rintro ⟨a0,a1,⟨⟩⟩ K ⟨r,h,hK⟩
 change Ve a0 a1=some r at h
 unfold Ve at h
 conv=>whnf
 refine ⟨by kernel_rfl,?_⟩
 conv=>whnf
 refine Zl h (fun within0 hb0 h=>?_)
 conv=>whnf
 refine Zel ?_
 refine YN h (fun h=>?_) (fun h=>?_)
 conv=>whnf
 refine Zl h (fun own0 hb1 h=>?_)
 conv=>whnf
 refine Zl h (fun sameEdit0 hb2 h=>?_)
 conv=>whnf
 refine ⟨trivial,?_⟩
 conv=>whnf
 refine Ya ?_
 refine YN h (fun h=>?_) (fun h=>?_)
 conv=>whnf
 refine ⟨by kernel_rfl,?_⟩
 conv=>whnf
 refine Zl h (fun places0 hb3 h=>?_)
 conv=>whnf
 refine Zl h (fun place0 hb4 h=>?_)
 conv=>whnf
 refine Zl h (fun within1 hb5 h=>?_)
 conv=>whnf
 refine ⟨trivial,?_⟩
 conv=>whnf
 refine ZC h (fun h=>?_) (fun h=>?_)
 conv=>whnf
 refine ZC h (fun h=>?_) (fun h=>?_)
 conv=>whnf
 refine ⟨by kernel_rfl,?_⟩
 conv=>whnf
 refine YN h (fun h=>?_) (fun h=>?_)
 conv=>whnf
 refine Zl h (fun Cell0 hb6 h=>?_)
 conv=>whnf
 refine Zl h (fun within2 hb7 h=>?_)
 conv=>whnf
 refine ⟨trivial,?_⟩
 conv=>whnf
 cases h
 exact hK
 conv=>whnf
 refine ⟨trivial,?_⟩
 conv=>whnf
 cases h
 exact hK
 conv=>whnf
 refine ZC h (fun h=>?_) (fun h=>?_)
 conv=>whnf
 refine ⟨by kernel_rfl,?_⟩
 conv=>whnf
 refine YN h (fun h=>?_) (fun h=>?_)
 conv=>whnf
 refine Zl h (fun isNet0 hb8 h=>?_)
 conv=>whnf
 refine YN h (fun h=>?_) (fun h=>?_)
 conv=>whnf
 refine vAt h (fun x0 he9a he9b he9x h=>?_)
 conv=>whnf
 refine Zl h (fun int64_0 hb10 h=>?_)
 conv=>whnf
 refine Zl h (fun within2 hb11 h=>?_)
 conv=>whnf
 refine ⟨trivial,?_⟩
 conv=>whnf
 cases h
 exact hK
 conv=>whnf
 refine ⟨trivial,?_⟩
 conv=>whnf
 cases h
 exact hK
 conv=>whnf
 refine ⟨trivial,?_⟩
 conv=>whnf
 cases h
 exact hK
 conv=>whnf
 refine ZC h (fun h=>?_) (fun h=>?_)
 conv=>whnf
 refine Zl h (fun isNet0 hb12 h=>?_)
 conv=>whnf
 cases h
 exact hK
 conv=>whnf
 cases h
 exact hK
 conv=>whnf
 refine ZC h (fun h=>?_) (fun h=>?_)
 conv=>whnf
 refine ⟨by kernel_rfl,?_⟩
 conv=>whnf
 refine YN h (fun h=>?_) (fun h=>?_)
 conv=>whnf
 refine Zl h (fun Cell0 hb13 h=>?_)
 conv=>whnf
 refine Zl h (fun within2 hb14 h=>?_)
 conv=>whnf
 refine ⟨trivial,?_⟩
 conv=>whnf
 cases h
 exact hK
 conv=>whnf
 refine ⟨trivial,?_⟩
 conv=>whnf
 cases h
 exact hK
 conv=>whnf
 refine ZC h (fun h=>?_) (fun h=>?_)
 conv=>whnf
 refine ⟨by kernel_rfl,?_⟩
 conv=>whnf
 refine YN h (fun h=>?_) (fun h=>?_)
 conv=>whnf
 refine Zl h (fun isNet0 hb15 h=>?_)
 conv=>whnf
 refine YN h (fun h=>?_) (fun h=>?_)
 conv=>whnf
 refine vAt h (fun x0 he16a he16b he16x h=>?_)
 conv=>whnf
 refine Zl h (fun int64_0 hb17 h=>?_)
 conv=>whnf
 refine Zl h (fun within2 hb18 h=>?_)
 conv=>whnf
 refine ⟨trivial,?_⟩
 conv=>whnf
 cases h
 exact hK
 conv=>whnf
 refine ⟨trivial,?_⟩
 conv=>whnf
 cases h
 exact hK
 conv=>whnf
 refine ⟨trivial,?_⟩
 conv=>whnf
 cases h
 exact hK
 conv=>whnf
 refine ZC h (fun h=>?_) (fun h=>?_)
 conv=>whnf
 refine Zl h (fun isNet0 hb19 h=>?_)
 conv=>whnf
 cases h
 exact hK
 conv=>whnf
 cases h
 exact hK
 conv=>whnf
 cases h
 exact hK
 conv=>whnf
 refine ⟨trivial,?_⟩
 conv=>whnf
 cases h
 exact hK
theorem ZB7:Zc Tryz.prog 219 c154:=by
 refine Zf Zq Zj mixed {} (fn:=Tryz.f219) Tryz.func219 (by kernel_rfl) (by kernel_rfl) ?_
 rintro ⟨e0,⟨⟩⟩ K ⟨r,h,hK⟩
 change Zcy e0=some r at h
 unfold Zcy at h
 conv=>whnf
 refine ZC h (fun h=>?_) (fun h=>?_)
 conv=>whnf
 cases h
 exact hK
 conv=>whnf
 refine ZC h (fun h=>?_) (fun h=>?_)
 conv=>whnf
 cases h
 exact hK
 conv=>whnf
 refine ZC h (fun h=>?_) (fun h=>?_)
 conv=>whnf
 cases h
 exact hK
 conv=>whnf
 refine ZC h (fun h=>?_) (fun h=>?_)
 conv=>whnf
 cases h
 exact hK
 conv=>whnf
 cases h
 exact hK
theorem ZFv (q0:Zc Tryz.prog 247 ZAe):Zc Tryz.prog 211 ZxN:=by
 refine Zf Zq (Ze q0 Zj) mixed {} (fn:=Tryz.f211) Tryz.func211 (by kernel_rfl) (by kernel_rfl) ?_
 rintro ⟨list0,low0,high0,⟨⟩⟩ K ⟨r,h,hK⟩
 change Xv list0 low0 high0=some r at h
 unfold Xv at h
 conv=>whnf
 refine Zl h (fun c1_0 hb0 h=>?_)
 conv=>whnf
 cases h
 exact hK
theorem ZFn (q0:Zc Tryz.prog 209 Zrh):Zc Tryz.prog 250 c109:=by
 refine Zf Zq (Ze q0 Zj) mixed {} (fn:=Tryz.f250) Tryz.func250 (by kernel_rfl) (by kernel_rfl) ?_
 rintro ⟨n0,a0,a1,⟨⟩⟩ K ⟨r,h,hK⟩
 change ZaT n0 a0 a1=some r at h
 unfold ZaT at h
 conv=>whnf
 refine Zl h (fun within0 hb0 h=>?_)
 conv=>whnf
 cases h
 exact hK
theorem ZF2:Zc Tryz.prog 222 Zzv:=by
 refine Zf Zq Zj mixed {} (fn:=Tryz.f222) Tryz.func222 (by kernel_rfl) (by kernel_rfl) ?_
 rintro ⟨c0,⟨⟩⟩ K ⟨r,h,hK⟩
 change Qx c0=some r at h
 unfold Qx at h
 conv=>whnf
 refine ZC h (fun h=>?_) (fun h=>?_)
 conv=>whnf
 cases h
 exact hK
 conv=>whnf
 cases h
 exact hK
theorem ZCt (q0:Zc Tryz.prog 209 Zrh):Zc Tryz.prog 189 ZAM:=by
 refine Zf Zq (Ze q0 Zj) mixed {} (fn:=Tryz.f189) Tryz.func189 (by kernel_rfl) (by kernel_rfl) ?_
 rintro ⟨t0,⟨⟩⟩ K ⟨r,h,hK⟩
 change Zey t0=some r at h
 unfold Zey at h
 conv=>whnf
 refine Zl h (fun within0 hb0 h=>?_)
 conv=>whnf
 cases h
 exact hK
theorem ZB5:Zc Tryz.prog 299 ZyW:=by
 refine Zf Zq Zj mixed {} (fn:=Tryz.f299) Tryz.func299 (by kernel_rfl) (by kernel_rfl) ?_
 rintro ⟨list0,⟨⟩⟩ K ⟨r,h,hK⟩
 change QL list0=some r at h
 unfold QL at h
 conv=>whnf
 cases h
 exact hK
theorem ZFW (q0:Zc Tryz.prog 251 c156):Zc Tryz.prog 218 c157:=by
 refine Zf Zq (Ze q0 Zj) mixed {} (fn:=Tryz.f218) Tryz.func218 (by kernel_rfl) (by kernel_rfl) ?_
 rintro ⟨a0,b0,⟨⟩⟩ K ⟨r,h,hK⟩
 change Zbd a0 b0=some r at h
 unfold Zbd at h
 conv=>whnf
 refine ZC h (fun h=>?_) (fun h=>?_)
 conv=>whnf
 refine ZC h (fun h=>?_) (fun h=>?_)
 conv=>whnf
 refine ZC h (fun h=>?_) (fun h=>?_)
 conv=>whnf
 refine ZC h (fun h=>?_) (fun h=>?_)
 conv=>whnf
 refine ZC h (fun h=>?_) (fun h=>?_)
 conv=>whnf
 refine ZC h (fun h=>?_) (fun h=>?_)
 conv=>whnf
 refine Zl h (fun sameWire0 hb0 h=>?_)
 conv=>whnf
 cases h
 exact hK
 conv=>whnf
 cases h
 exact hK
 conv=>whnf
 cases h
 exact hK
 conv=>whnf
 cases h
 exact hK
 conv=>whnf
 cases h
 exact hK
 conv=>whnf
 cases h
 exact hK
 conv=>whnf
 cases h
 exact hK
theorem ZDt (q0:Zc Tryz.prog 30 ZxT):Zc Tryz.prog 310 c218:=by
 refine Zf Zq (Ze q0 Zj) mixed {} (fn:=Tryz.f310) Tryz.func310 (by kernel_rfl) (by kernel_rfl) ?_
 rintro ⟨a0,b0,⟨⟩⟩ K ⟨r,h,hK⟩
 change Zca a0 b0=some r at h
 unfold Zca at h
 conv=>whnf
 refine Zl h (fun eqInt64S0 hb0 h=>?_)
 conv=>whnf
 refine Ya ?_
 refine YN h (fun h=>?_) (fun h=>?_)
 conv=>whnf
 refine Zl h (fun eqInt64S1 hb1 h=>?_)
 conv=>whnf
 refine Ya ?_
 refine YN h (fun h=>?_) (fun h=>?_)
 conv=>whnf
 refine Zl h (fun eqInt64S2 hb2 h=>?_)
 conv=>whnf
 refine Ya ?_
 refine YN h (fun h=>?_) (fun h=>?_)
 conv=>whnf
 cases h
 exact hK
 conv=>whnf
 cases h
 exact hK
 conv=>whnf
 cases h
 exact hK
 conv=>whnf
 cases h
 exact hK
theorem ZB1 (q0:Zc Tryz.prog 66 ZzP) (q1:Zc Tryz.prog 67 c213):Zc Tryz.prog 23 ZzX:=by
 refine Zf Zq (Ze q0 (Ze q1 Zj)) mixed {} (fn:=Tryz.f23) Tryz.func23 (by kernel_rfl) (by kernel_rfl) ?_
 rintro ⟨a0,b0,⟨⟩⟩ K ⟨r,h,hK⟩
 change Zbf a0 b0=some r at h
 unfold Zbf at h
 conv=>whnf
 refine Zl h (fun eqBoolS0 hb0 h=>?_)
 conv=>whnf
 refine Ya ?_
 refine YN h (fun h=>?_) (fun h=>?_)
 conv=>whnf
 refine Zl h (fun eqSpanS0 hb1 h=>?_)
 conv=>whnf
 refine Ya ?_
 refine YN h (fun h=>?_) (fun h=>?_)
 conv=>whnf
 refine Zl h (fun eqSpanS1 hb2 h=>?_)
 conv=>whnf
 refine Ya ?_
 refine YN h (fun h=>?_) (fun h=>?_)
 conv=>whnf
 cases h
 exact hK
 conv=>whnf
 cases h
 exact hK
 conv=>whnf
 cases h
 exact hK
 conv=>whnf
 cases h
 exact hK
theorem ZCU:Zc Tryz.prog 72 ZzV:=by
 refine Zf Zq Zj mixed {loops:=[(0,[.reg 1 (.dat (.int .i64)),.reg 5 (.dat (.int .i64))])]} (fn:=Tryz.f72) Tryz.func72 (by kernel_rfl) (by kernel_rfl) ?_
 rintro ⟨a0,k0,⟨⟩⟩ K ⟨r,h,hK⟩
 change ZbH a0 k0=some r at h
 unfold ZbH at h
 conv=>whnf
 refine Yu h ?_
 rintro I0 μ0 ⟨k1,i0,⟨⟩⟩ zs0 h hI0 hR0
 change QJ a0 k1 i0=some zs0 at h
 unfold QJ at h
 conv=>whnf
 refine ZC h (fun h=>?_) (fun h=>?_)
 conv=>whnf
 refine vAt h (fun x0 he1a he1b he1x h=>?_)
 conv=>whnf
 refine ⟨by decide,?_⟩
 conv=>whnf
 refine Ya ?_
 refine YN h (fun h=>?_) (fun h=>?_)
 conv=>whnf
 cases h
 exact ⟨⟨rfl,rfl⟩,hI0 _ rfl⟩
 conv=>whnf
 cases h
 obtain rfl:=hR0 _ rfl
 exact hK
 conv=>whnf
 cases h
 obtain rfl:=hR0 _ rfl
 exact hK
theorem ZCq (q0:Zc Tryz.prog 49 ZxJ):Zc Tryz.prog 171 c236:=by
 refine Zf YO (Ze q0 Zj) mixed {loops:=[(0,[.reg 1 (.dat (.int .i64)),.reg 5 (.dat (.int .i64)),.ent 0 (nat_lit 260) (.flat ZdO)])]} (fn:=Tryz.f171) Tryz.func171 (by kernel_rfl) (by kernel_rfl) ?_
 rintro ⟨a0,k0,⟨⟩⟩ K ⟨r,h,hK⟩
 change ZcM a0 k0=some r at h
 unfold ZcM at h
 conv=>whnf
 refine Yu h ?_
 rintro I0 μ0 ⟨k1,i0,l0,⟨⟩⟩ zs0 h hI0 hR0
 change Jt k1 i0 l0=some zs0 at h
 unfold Jt at h
 conv=>whnf
 refine ZC h (fun h=>?_) (fun h=>?_)
 conv=>whnf
 refine Zl h (fun markText0 hb1 h=>?_)
 conv=>whnf
 refine vAt h (fun x0 he2a he2b he2x h=>?_)
 conv=>whnf
 refine ⟨by kernel_rfl,?_⟩
 conv=>whnf
 refine ⟨by decide,?_⟩
 conv=>whnf
 refine ⟨he2a,he2b,Zv he2x ?_⟩
 conv=>whnf
 refine vAt h (fun x1 he3a he3b he3x h=>?_)
 conv=>whnf
 refine ⟨by kernel_rfl,?_⟩
 conv=>whnf
 refine ⟨by decide,?_⟩
 conv=>whnf
 refine ⟨he3a,he3b,Zv he3x ?_⟩
 conv=>whnf
 refine vAt h (fun x2 he4a he4b he4x h=>?_)
 conv=>whnf
 refine ⟨by kernel_rfl,?_⟩
 conv=>whnf
 refine ⟨by decide,?_⟩
 conv=>whnf
 refine ⟨he4a,he4b,Zv he4x ?_⟩
 conv=>whnf
 refine ⟨by decide,?_⟩
 conv=>whnf
 refine vAt h (fun x3 he5a he5b he5x h=>?_)
 conv=>whnf
 refine ⟨by kernel_rfl,?_⟩
 conv=>whnf
 refine ⟨by decide,?_⟩
 conv=>whnf
 refine ⟨he5a,he5b,Zv he5x ?_⟩
 conv=>whnf
 cases h
 exact ⟨⟨rfl,rfl⟩,hI0 _ rfl⟩
 conv=>whnf
 cases h
 obtain rfl:=hR0 _ rfl
 exact hK
theorem ZDi (q0:Zc Tryz.prog 49 ZxJ):Zc Tryz.prog 104 ZBz:=by
 refine Zf YO (Ze q0 Zj) mixed {loops:=[(0,[.reg 1 (.dat (.int .i64)),.reg 5 (.dat (.int .i64)),.ent 0 (nat_lit 201) (.flat J5)])]} (fn:=Tryz.f104) Tryz.func104 (by kernel_rfl) (by kernel_rfl) ?_
 rintro ⟨a0,k0,⟨⟩⟩ K ⟨r,h,hK⟩
 change ZbA a0 k0=some r at h
 unfold ZbA at h
 conv=>whnf
 refine Yu h ?_
 rintro I0 μ0 ⟨k1,i0,l0,⟨⟩⟩ zs0 h hI0 hR0
 change VO k1 i0 l0=some zs0 at h
 unfold VO at h
 conv=>whnf
 refine ZC h (fun h=>?_) (fun h=>?_)
 conv=>whnf
 refine Zl h (fun markText0 hb1 h=>?_)
 conv=>whnf
 refine vAt h (fun x0 he2a he2b he2x h=>?_)
 conv=>whnf
 refine ⟨by kernel_rfl,?_⟩
 conv=>whnf
 refine ⟨by decide,?_⟩
 conv=>whnf
 refine ⟨he2a,he2b,Zv he2x ?_⟩
 conv=>whnf
 refine vAt h (fun x1 he3a he3b he3x h=>?_)
 conv=>whnf
 refine ⟨by kernel_rfl,?_⟩
 conv=>whnf
 refine ⟨by decide,?_⟩
 conv=>whnf
 refine ⟨he3a,he3b,Zv he3x ?_⟩
 conv=>whnf
 refine vAt h (fun x2 he4a he4b he4x h=>?_)
 conv=>whnf
 refine ⟨by kernel_rfl,?_⟩
 conv=>whnf
 refine ⟨by decide,?_⟩
 conv=>whnf
 refine ⟨he4a,he4b,Zv he4x ?_⟩
 conv=>whnf
 cases h
 exact ⟨⟨rfl,rfl⟩,hI0 _ rfl⟩
 conv=>whnf
 cases h
 obtain rfl:=hR0 _ rfl
 exact hK
theorem w20:Zc Tryz.prog 54 c20:=by
 refine Zf Zq Zj mixed {} (fn:=Tryz.f54) Tryz.func54 (by kernel_rfl) (by kernel_rfl) ?_
 rintro ⟨a0,left0,⟨⟩⟩ K ⟨r,h,hK⟩
 change Za9 a0 left0=some r at h
 unfold Za9 at h
 conv=>whnf
 refine ZC h (fun h=>?_) (fun h=>?_)
 conv=>whnf
 cases h
 exact hK
 conv=>whnf
 cases h
 exact hK
theorem w3 (q0:Zc Tryz.prog 109 c2):Zc Tryz.prog 296 c3:=by
 refine Zf Zq (Ze q0 Zj) mixed {} (fn:=Tryz.f296) Tryz.func296 (by kernel_rfl) (by kernel_rfl) ?_
 rintro ⟨a0,left0,⟨⟩⟩ K ⟨r,h,hK⟩
 change Jb a0 left0=some r at h
 unfold Jb at h
 conv=>whnf
 refine Zl h (fun szInt64S0 hb0 h=>?_)
 conv=>whnf
 refine ZC h (fun h=>?_) (fun h=>?_)
 conv=>whnf
 cases h
 exact hK
 conv=>whnf
 refine Zl h (fun szInt64S1 hb1 h=>?_)
 conv=>whnf
 refine ZC h (fun h=>?_) (fun h=>?_)
 conv=>whnf
 cases h
 exact hK
 conv=>whnf
 refine Zl h (fun szInt64S2 hb2 h=>?_)
 conv=>whnf
 refine ZC h (fun h=>?_) (fun h=>?_)
 conv=>whnf
 cases h
 exact hK
 conv=>whnf
 cases h
 exact hK
theorem w17 (q0:Zc Tryz.prog 53 c16):Zc Tryz.prog 35 c17:=by
 refine Zf Zq (Ze q0 Zj) mixed {loops:=[(0,[.reg 1 (.dat (.int .i64)),.reg 5 (.dat (.int .i64))])]} (fn:=Tryz.f35) Tryz.func35 (by kernel_rfl) (by kernel_rfl) ?_
 rintro ⟨a0,left0,⟨⟩⟩ K ⟨r,h,hK⟩
 change Za3 a0 left0=some r at h
 unfold Za3 at h
 conv=>whnf
 refine ZC h (fun h=>?_) (fun h=>?_)
 conv=>whnf
 cases h
 exact hK
 conv=>whnf
 refine Yu h ?_
 rintro I0 μ0 ⟨left1,i0,⟨⟩⟩ zs0 h hI0 hR0
 change Zd9 a0 left1 i0=some zs0 at h
 unfold Zd9 at h
 conv=>whnf
 refine ZC h (fun h=>?_) (fun h=>?_)
 conv=>whnf
 refine vAt h (fun x0 he1a he1b he1x h=>?_)
 conv=>whnf
 refine Zl h (fun szWire0 hb2 h=>?_)
 conv=>whnf
 refine ZC h (fun h=>?_) (fun h=>?_)
 conv=>whnf
 cases h
 obtain rfl:=hR0 _ rfl
 exact hK
 conv=>whnf
 cases h
 exact ⟨⟨rfl,rfl⟩,hI0 _ rfl⟩
 conv=>whnf
 cases h
 obtain rfl:=hR0 _ rfl
 exact hK
theorem w43:Zc Tryz.prog 60 c43:=by
 refine Zf Zq Zj mixed {loops:=[(0,[.reg 4 (.dat (.int .i64)),.ent 0 (nat_lit 4) (.flat ZyN.ety)])]} (fn:=Tryz.f60) Tryz.func60 (by kernel_rfl) (by kernel_rfl) ?_
 rintro ⟨a0,⟨⟩⟩ K ⟨r,h,hK⟩
 change ZdM a0=some r at h
 unfold ZdM at h
 conv=>whnf
 refine YU h (fun hp0 h=>?_)
 conv=>whnf
 refine YU h (fun hp1 h=>?_)
 conv=>whnf
 refine YU h (fun hp2 h=>?_)
 conv=>whnf
 refine YU h (fun hp3 h=>?_)
 conv=>whnf
 refine Yu h ?_
 rintro I4 μ4 ⟨i0,l0,⟨⟩⟩ zs4 h hI4 hR4
 change ZdV a0 i0 l0=some zs4 at h
 unfold ZdV at h
 conv=>whnf
 refine ZC h (fun h=>?_) (fun h=>?_)
 conv=>whnf
 refine vAt h (fun x0 he5a he5b he5x h=>?_)
 conv=>whnf
 refine vAt h (fun x1 he6a he6b he6x h=>?_)
 conv=>whnf
 refine ⟨by kernel_rfl,?_⟩
 conv=>whnf
 refine ⟨by decide,?_⟩
 conv=>whnf
 refine ⟨he6a,he6b,Zv he6x ?_⟩
 conv=>whnf
 cases h
 exact ⟨⟨rfl,rfl⟩,hI4 _ rfl⟩
 conv=>whnf
 cases h
 obtain rfl:=hR4 _ rfl
 exact hK
theorem w34 (q0:Zc Tryz.prog 153 c33):Zc Tryz.prog 88 c34:=by
 refine Zf YO (Ze q0 Zj) mixed {loops:=[(0,[.reg 4 (.dat (.int .i64)),.ent 0 (nat_lit 169) Zb4])]} (fn:=Tryz.f88) Tryz.func88 (by kernel_rfl) (by kernel_rfl) ?_
 rintro ⟨a0,⟨⟩⟩ K ⟨r,h,hK⟩
 change Zab a0=some r at h
 unfold Zab at h
 conv=>whnf
 refine YU h (fun hp0 h=>?_)
 conv=>whnf
 refine YU h (fun hp1 h=>?_)
 conv=>whnf
 refine YU h (fun hp2 h=>?_)
 conv=>whnf
 refine YU h (fun hp3 h=>?_)
 conv=>whnf
 intro fp4
 conv=>whnf
 refine Yu h ?_
 rintro I5 μ5 ⟨i0,l0,⟨⟩⟩ zs5 h hI5 hR5
 change ZbO a0 i0 l0=some zs5 at h
 unfold ZbO at h
 conv=>whnf
 intro fp6
 conv=>whnf
 refine ZC h (fun h=>?_) (fun h=>?_)
 conv=>whnf
 refine vAt h (fun x0 he7a he7b he7x h=>?_)
 conv=>whnf
 refine Zl h (fun toInstance0 hb8 h=>?_)
 conv=>whnf
 refine vAt h (fun x1 he9a he9b he9x h=>?_)
 conv=>whnf
 refine ⟨he9a,he9b,Zv he9x ?_⟩
 conv=>whnf
 intro fp10
 conv=>whnf
 cases h
 exact ⟨⟨rfl,rfl⟩,hI5 _ rfl⟩
 conv=>whnf
 cases h
 obtain rfl:=hR5 _ rfl
 exact hK
theorem w44:Zc Tryz.prog 118 c44:=by
 refine Zf Zq Zj mixed {} (fn:=Tryz.f118) Tryz.func118 (by kernel_rfl) (by kernel_rfl) ?_
 rintro ⟨a0,⟨⟩⟩ K ⟨r,h,hK⟩
 change Zdn a0=some r at h
 unfold Zdn at h
 conv=>whnf
 cases h
 exact hK
theorem w46 (q0:Zc Tryz.prog 60 c43) (q1:Zc Tryz.prog 61 c45):Zc Tryz.prog 21 c46:=by
 refine Zf Zq (Ze q0 (Ze q1 Zj)) mixed {} (fn:=Tryz.f21) Tryz.func21 (by kernel_rfl) (by kernel_rfl) ?_
 rintro ⟨a0,⟨⟩⟩ K ⟨r,h,hK⟩
 change Zci a0=some r at h
 unfold Zci at h
 conv=>whnf
 refine Zl h (fun toBoolS0 hb0 h=>?_)
 conv=>whnf
 refine Zl h (fun toSpanS0 hb1 h=>?_)
 conv=>whnf
 refine Zl h (fun toSpanS1 hb2 h=>?_)
 conv=>whnf
 cases h
 exact hK
theorem ZEH (q0:Zc Tryz.prog 279 ZAW):Zc Tryz.prog 247 ZAe:=by
 refine Zf Zq (Ze q0 Zj) mixed {} (fn:=Tryz.f247) Tryz.func247 (by kernel_rfl) (by kernel_rfl) ?_
 rintro ⟨s0,f0,⟨⟩⟩ K ⟨r,h,hK⟩
 change Z4 s0 f0=some r at h
 unfold Z4 at h
 conv=>whnf
 refine Zl h (fun c1_0 hb0 h=>?_)
 conv=>whnf
 cases h
 exact hK
theorem ZDQ (q0:Zc Tryz.prog 208 c146):Zc Tryz.prog 249 ZAD:=by
 refine Zf Zq (Ze q0 Zj) mixed {loops:=[(0,[.reg 8 (.dat (.int .i64))])]} (fn:=Tryz.f249) Tryz.func249 (by kernel_rfl) (by kernel_rfl) ?_
 rintro ⟨s0,f0,⟨⟩⟩ K ⟨r,h,hK⟩
 change Z5 s0 f0=some r at h
 unfold Z5 at h
 conv=>whnf
 refine Yu h ?_
 rintro I0 μ0 ⟨v0,⟨⟩⟩ zs0 h hI0 hR0
 change Z7 s0 v0=some zs0 at h
 unfold Z7 at h
 conv=>whnf
 refine ZC h (fun h=>?_) (fun h=>?_)
 conv=>whnf
 refine vAt h (fun x0 he1a he1b he1x h=>?_)
 conv=>whnf
 refine Zl h (fun c1_0 hb2 h=>?_)
 conv=>whnf
 refine YN h (fun h=>?_) (fun h=>?_)
 conv=>whnf
 cases h
 obtain rfl:=hR0 _ rfl
 exact hK
 conv=>whnf
 cases h
 exact ⟨⟨rfl,rfl⟩,hI0 _ rfl⟩
 conv=>whnf
 cases h
 obtain rfl:=hR0 _ rfl
 exact hK
theorem w64 (q0:Zc Tryz.prog 80 c60) (q1:Zc Tryz.prog 82 c62) (q2:Zc Tryz.prog 81 c63):Zc Tryz.prog 36 c64:=by
 refine Zf Zq (Ze q0 (Ze q1 (Ze q2 Zj))) mixed {loops:=[(0,[.reg 3 (.dat (.int .i64))])],draws:=[(6,[0,1,0,7,15,0,32,0,224,480,1023,2047],.op 0 (.op 1 (.op 2 (.op 3 (.op 4 (.op 5 (.op 6 (.op 7 (.alt 8 (.op 9 (.alt 10 (.op 11 (.done)) (.done))) (.done))))))))))]} (fn:=Tryz.f36) Tryz.func36 (by kernel_rfl) (by kernel_rfl) ?_
 rintro ⟨b0,⟨⟩⟩ K ⟨r,h,hK⟩
 change Zb6 b0=some r at h
 unfold Zb6 at h
 conv=>whnf
 refine Zl h (fun IsDesign0 hb0 h=>?_)
 conv=>whnf
 refine Zel ?_
 refine YN h (fun h=>?_) (fun h=>?_)
 conv=>whnf
 refine Ya ?_
 refine ZC h (fun h=>?_) (fun h=>?_)
 conv=>whnf
 refine Yu h ?_
 rintro I1 μ1 ⟨net0,⟨⟩⟩ zs1 h hI1 hR1
 change Zah b0 net0=some zs1 at h
 unfold Zah at h
 conv=>whnf
 refine ZC h (fun h=>?_) (fun h=>?_)
 conv=>whnf
 refine ⟨by kernel_rfl,?_⟩
 conv=>whnf
 refine vAt h (fun x0 he2a he2b he2x h=>?_)
 conv=>whnf
 refine Zl h (fun l05Sinks0 hb3 h=>?_)
 conv=>whnf
 refine Zl h (fun IsWire0 hb4 h=>?_)
 conv=>whnf
 refine ⟨trivial,?_⟩
 conv=>whnf
 refine Ya ?_
 refine YN h (fun h=>?_) (fun h=>?_)
 conv=>whnf
 cases h
 exact ⟨⟨rfl,rfl⟩,hI1 _ rfl⟩
 conv=>whnf
 cases h
 obtain rfl:=hR1 _ rfl
 exact hK
 conv=>whnf
 cases h
 obtain rfl:=hR1 _ rfl
 exact hK
 conv=>whnf
 cases h
 exact hK
 conv=>whnf
 cases h
 exact hK
theorem w56 (q1:Zc Tryz.prog 239 c49) (q2:Zc Tryz.prog 177 c47) (q4:Zc Tryz.prog 144 c48) (q3:Zc Tryz.prog 240 c54) (q0:Zc Tryz.prog 241 c55):Zc Tryz.prog 198 c56:=by
 refine Zf Zq (Ze q1 (Ze q2 (Ze q4 (Ze q3 (Ze q0 Zj))))) mixed {loops:=[(0,[.reg 5 (.dat (.int .i64))]),(2,[.reg 7 (.dat (.int .i64))]),(5,[.reg 9 (.dat (.int .i64))])],draws:=[(13,[0,1,0,7,15,31,0,64,255,511,1023,2047,1023,8191,16383,32767,1023,66559,262143,524287,1048575,2097151,4194303,2097151,16777215,33554431,67108863,2097151,136314879,536870911,1073741823],.op 0 (.op 1 (.op 2 (.op 3 (.op 4 (.op 5 (.op 6 (.op 7 (.op 8 (.op 9 (.op 10 (.op 11 (.op 12 (.op 13 (.op 14 (.op 15 (.op 16 (.op 17 (.op 18 (.op 19 (.op 20 (.op 21 (.op 22 (.op 23 (.op 24 (.op 25 (.op 26 (.op 27 (.op 28 (.op 29 (.op 30 (.done)))))))))))))))))))))))))))))))),(25,[0,1,3,7,15,31,63,127,255,511,1023,2047,4095,511,8703,25087,57855,131071,262143,524287,1048575,2097151,4194303,8388607,16777215,33554431],.op 0 (.op 1 (.op 2 (.op 3 (.op 4 (.op 5 (.op 6 (.op 7 (.op 8 (.op 9 (.op 10 (.op 11 (.op 12 (.op 13 (.op 14 (.op 15 (.op 16 (.op 17 (.op 18 (.op 19 (.op 20 (.op 21 (.op 22 (.op 23 (.op 24 (.op 25 (.done)))))))))))))))))))))))))))]} (fn:=Tryz.f198) Tryz.func198 (by kernel_rfl) (by kernel_rfl) ?_
 rintro ⟨a0,⟨⟩⟩ K ⟨r,h,hK⟩
 change Zes a0=some r at h
 unfold Zes at h
 conv=>whnf
 refine Zl h (fun l03Pins0 hb0 h=>?_)
 conv=>whnf
 refine Zel ?_
 refine YN h (fun h=>?_) (fun h=>?_)
 conv=>whnf
 refine Zl h (fun l03Name0 hb1 h=>?_)
 conv=>whnf
 refine Zel ?_
 refine YN h (fun h=>?_) (fun h=>?_)
 conv=>whnf
 refine ZiY h (fun h=>?_) (fun h=>?_)
 conv=>whnf
 cases h
 exact hK
 conv=>whnf
 refine Zl h (fun l01In0 hb2 h=>?_)
 conv=>whnf
 refine Zel ?_
 refine YN h (fun h=>?_) (fun h=>?_)
 conv=>whnf
 refine Zl h (fun l01In1 hb3 h=>?_)
 conv=>whnf
 refine Ya ?_
 refine YN h (fun h=>?_) (fun h=>?_)
 conv=>whnf
 refine Yu h ?_
 rintro I4 μ4 ⟨v0,⟨⟩⟩ zs4 h hI4 hR4
 change ZaU a0 l03Pins0 v0=some zs4 at h
 unfold ZaU at h
 conv=>whnf
 refine ZC h (fun h=>?_) (fun h=>?_)
 conv=>whnf
 refine vAt h (fun x0 he5a he5b he5x h=>?_)
 conv=>whnf
 refine Zl h (fun l03Arc0 hb6 h=>?_)
 conv=>whnf
 refine Ya ?_
 refine YN h (fun h=>?_) (fun h=>?_)
 conv=>whnf
 refine Yu h ?_
 rintro I7 μ7 ⟨v1,⟨⟩⟩ zs7 h hI7 hR7
 change Jk a0 v0 x0 v1=some zs7 at h
 unfold Jk at h
 conv=>whnf
 refine ZC h (fun h=>?_) (fun h=>?_)
 conv=>whnf
 refine ⟨by kernel_rfl,?_⟩
 conv=>whnf
 refine vAt h (fun x1 he8a he8b he8x h=>?_)
 conv=>whnf
 refine ZC h (fun h=>?_) (fun h=>?_)
 conv=>whnf
 refine ⟨he8a,he8b,Zv he8x ?_⟩
 conv=>whnf
 refine ZC h (fun h=>?_) (fun h=>?_)
 conv=>whnf
 refine ⟨he8a,he8b,Zv he8x ?_⟩
 conv=>whnf
 refine ⟨trivial,?_⟩
 conv=>whnf
 refine ZC h (fun h=>?_) (fun h=>?_)
 conv=>whnf
 cases h
 obtain rfl:=hR7 _ rfl
 obtain rfl:=hR4 _ rfl
 exact hK
 conv=>whnf
 cases h
 exact ⟨⟨rfl,rfl⟩,hI7 _ rfl⟩
 conv=>whnf
 refine ⟨trivial,?_⟩
 conv=>whnf
 cases h
 exact ⟨⟨rfl,rfl⟩,hI7 _ rfl⟩
 conv=>whnf
 refine ⟨trivial,?_⟩
 conv=>whnf
 cases h
 exact ⟨⟨rfl,rfl⟩,hI7 _ rfl⟩
 conv=>whnf
 cases h
 obtain rfl:=hR7 _ rfl
 exact ⟨⟨rfl,rfl⟩,hI4 _ rfl⟩
 conv=>whnf
 cases h
 obtain rfl:=hR4 _ rfl
 exact hK
 conv=>whnf
 refine Zl h (fun l03Kinds0 hb9 h=>?_)
 conv=>whnf
 refine ZC h (fun h=>?_) (fun h=>?_)
 conv=>whnf
 refine Yu h ?_
 rintro I10 μ10 ⟨v1,⟨⟩⟩ zs10 h hI10 hR10
 change Jo a0 l03Pins0 v1=some zs10 at h
 unfold Jo at h
 conv=>whnf
 refine ZC h (fun h=>?_) (fun h=>?_)
 conv=>whnf
 refine vAt h (fun x0 he11a he11b he11x h=>?_)
 conv=>whnf
 refine Zl h (fun l01In2 hb12 h=>?_)
 conv=>whnf
 refine Ya ?_
 refine YN h (fun h=>?_) (fun h=>?_)
 conv=>whnf
 cases h
 exact ⟨⟨rfl,rfl⟩,hI10 _ rfl⟩
 conv=>whnf
 cases h
 obtain rfl:=hR10 _ rfl
 obtain rfl:=hR4 _ rfl
 exact hK
 conv=>whnf
 refine ZC h (fun h=>?_) (fun h=>?_)
 conv=>whnf
 refine YU h (fun hp13 h=>?_)
 conv=>whnf
 cases h
 obtain rfl:=hR10 _ rfl
 obtain rfl:=hR4 _ rfl
 exact hK
 conv=>whnf
 cases h
 obtain rfl:=hR10 _ rfl
 obtain rfl:=hR4 _ rfl
 exact hK
 conv=>whnf
 refine ZC h (fun h=>?_) (fun h=>?_)
 conv=>whnf
 refine ⟨by kernel_rfl,?_⟩
 conv=>whnf
 refine ZC h (fun h=>?_) (fun h=>?_)
 conv=>whnf
 refine vAt h (fun x0 he14a he14b he14x h=>?_)
 conv=>whnf
 refine ⟨by kernel_rfl,?_⟩
 conv=>whnf
 refine ⟨he14a,he14b,Zv he14x ?_⟩
 conv=>whnf
 refine ZC h (fun h=>?_) (fun h=>?_)
 conv=>whnf
 refine vAt h (fun x1 he15a he15b he15x h=>?_)
 conv=>whnf
 refine ⟨by kernel_rfl,?_⟩
 conv=>whnf
 refine ⟨he15a,he15b,Zv he15x ?_⟩
 conv=>whnf
 refine vAt h (fun x2 he16a he16b he16x h=>?_)
 conv=>whnf
 refine ⟨by kernel_rfl,?_⟩
 conv=>whnf
 refine ⟨he16a,he16b,Zv he16x ?_⟩
 conv=>whnf
 refine Ya ?_
 refine YN h (fun h=>?_) (fun h=>?_)
 conv=>whnf
 refine ⟨trivial,?_⟩
 conv=>whnf
 cases h
 obtain rfl:=hR4 _ rfl
 exact hK
 conv=>whnf
 refine ⟨trivial,?_⟩
 conv=>whnf
 cases h
 obtain rfl:=hR4 _ rfl
 exact hK
 conv=>whnf
 refine ⟨trivial,?_⟩
 conv=>whnf
 cases h
 obtain rfl:=hR4 _ rfl
 exact hK
 conv=>whnf
 refine ⟨trivial,?_⟩
 conv=>whnf
 cases h
 obtain rfl:=hR4 _ rfl
 exact hK
 conv=>whnf
 refine ZC h (fun h=>?_) (fun h=>?_)
 conv=>whnf
 refine ZC h (fun h=>?_) (fun h=>?_)
 conv=>whnf
 refine vAt h (fun x0 he17a he17b he17x h=>?_)
 conv=>whnf
 refine ⟨by kernel_rfl,?_⟩
 conv=>whnf
 refine ⟨he17a,he17b,Zv he17x ?_⟩
 conv=>whnf
 refine ZC h (fun h=>?_) (fun h=>?_)
 conv=>whnf
 refine vAt h (fun x1 he18a he18b he18x h=>?_)
 conv=>whnf
 refine ⟨by kernel_rfl,?_⟩
 conv=>whnf
 refine ⟨he18a,he18b,Zv he18x ?_⟩
 conv=>whnf
 refine ZC h (fun h=>?_) (fun h=>?_)
 conv=>whnf
 refine vAt h (fun x2 he19a he19b he19x h=>?_)
 conv=>whnf
 refine ⟨by kernel_rfl,?_⟩
 conv=>whnf
 refine ⟨he19a,he19b,Zv he19x ?_⟩
 conv=>whnf
 refine ZC h (fun h=>?_) (fun h=>?_)
 conv=>whnf
 cases h
 obtain rfl:=hR4 _ rfl
 exact hK
 conv=>whnf
 cases h
 obtain rfl:=hR4 _ rfl
 exact hK
 conv=>whnf
 cases h
 obtain rfl:=hR4 _ rfl
 exact hK
 conv=>whnf
 cases h
 obtain rfl:=hR4 _ rfl
 exact hK
 conv=>whnf
 cases h
 obtain rfl:=hR4 _ rfl
 exact hK
 conv=>whnf
 cases h
 obtain rfl:=hR4 _ rfl
 exact hK
 conv=>whnf
 cases h
 exact hK
 conv=>whnf
 cases h
 exact hK
 conv=>whnf
 cases h
 exact hK
 conv=>whnf
 cases h
 exact hK
theorem w77 (q0:Zc Tryz.prog 144 c48):Zc Tryz.prog 181 c77:=by
 refine Zf Zq (Ze q0 Zj) mixed {} (fn:=Tryz.f181) Tryz.func181 (by kernel_rfl) (by kernel_rfl) ?_
 rintro ⟨s0,⟨⟩⟩ K ⟨r,h,hK⟩
 change ZeJ s0=some r at h
 unfold ZeJ at h
 conv=>whnf
 refine Zl h (fun l01In0 hb0 h=>?_)
 conv=>whnf
 refine YN h (fun h=>?_) (fun h=>?_)
 conv=>whnf
 refine Zl h (fun l01In1 hb1 h=>?_)
 conv=>whnf
 refine YN h (fun h=>?_) (fun h=>?_)
 conv=>whnf
 cases h
 exact hK
 conv=>whnf
 cases h
 exact hK
 conv=>whnf
 cases h
 exact hK
theorem w82 (q0:Zc Tryz.prog 146 c81):Zc Tryz.prog 242 c82:=by
 refine Zf Zq (Ze q0 Zj) mixed {draws:=[(1,[0,1,3,0,8,31,0,64,255,511,1023],.op 0 (.op 1 (.op 3 (.op 4 (.op 6 (.op 7 (.alt 2 (.alt 5 (.alt 8 (.op 9 (.alt 10 (.done) (.done))) (.done)) (.done)) (.done))))))))]} (fn:=Tryz.f242) Tryz.func242 (by kernel_rfl) (by kernel_rfl) ?_
 rintro ⟨t0,⟨⟩⟩ K ⟨r,h,hK⟩
 change ZeC t0=some r at h
 unfold ZeC at h
 conv=>whnf
 refine ⟨by kernel_rfl,?_⟩
 conv=>whnf
 refine Zl h (fun l02Ints0 hb0 h=>?_)
 conv=>whnf
 refine Zl h (fun l02Ints1 hb1 h=>?_)
 conv=>whnf
 refine Zl h (fun l02Ints2 hb2 h=>?_)
 conv=>whnf
 refine ⟨trivial,?_⟩
 conv=>whnf
 cases h
 exact hK
theorem w83 (q0:Zc Tryz.prog 242 c82):Zc Tryz.prog 199 c83:=by
 refine Zf YO (Ze q0 Zj) mixed {loops:=[(0,[.reg 3 (.own (.ol 290 (Ze9))),.reg 4 (.dat (.int .i64))])]} (fn:=Tryz.f199) Tryz.func199 (by kernel_rfl) (by kernel_rfl) ?_
 rintro ⟨list0,⟨⟩⟩ K ⟨r,h,hK⟩
 change Vb list0=some r at h
 unfold Vb at h
 conv=>whnf
 intro fp0
 conv=>whnf
 refine Yu h ?_
 rintro I1 μ1 ⟨out0,i0,⟨⟩⟩ zs1 h hI1 hR1
 change XD list0 out0 i0=some zs1 at h
 unfold XD at h
 conv=>whnf
 intro fp2
 conv=>whnf
 refine ZC h (fun h=>?_) (fun h=>?_)
 conv=>whnf
 refine vAt h (fun x0 he3a he3b he3x h=>?_)
 conv=>whnf
 refine Zl h (fun l02Own0 hb4 h=>?_)
 conv=>whnf
 intro fp5
 conv=>whnf
 refine YU h (fun hp6 h=>?_)
 conv=>whnf
 intro fp7
 conv=>whnf
 cases h
 exact ⟨⟨rfl,rfl⟩,hI1 _ rfl⟩
 conv=>whnf
 cases h
 obtain rfl:=hR1 _ rfl
 exact hK
theorem w61:Zc Tryz.prog 134 c61:=by
 refine Zf Zq Zj mixed {loops:=[(0,[.reg 3 (.own (.ol 189 (.flat (ZfW)))),.reg 4 (.dat (.int .i64))]),(2,[.reg 3 (.own (.ol 189 (.flat (ZfW)))),.reg 6 (.dat (.int .i64))]),(4,[.reg 3 (.own (.ol 189 (.flat (ZfW)))),.reg 7 (.dat (.int .i64))])],draws:=[(13,[0,0,0,4,0,28,60,124,0,256,0,1792,3840,7936,16128,32766,65534,131071,262143],.op 0 (.op 1 (.op 2 (.op 3 (.op 4 (.op 5 (.op 6 (.op 7 (.op 8 (.op 9 (.op 10 (.op 11 (.op 12 (.op 13 (.op 14 (.op 15 (.alt 16 (.alt 17 (.op 18 (.done)) (.done)) (.done))))))))))))))))))]} (fn:=Tryz.f134) Tryz.func134 (by kernel_rfl) (by kernel_rfl) ?_
 rintro ⟨a0,⟨⟩⟩ K ⟨r,h,hK⟩
 change Y5 a0=some r at h
 unfold Y5 at h
 conv=>whnf
 refine Yu h ?_
 rintro I0 μ0 ⟨v0,v1,⟨⟩⟩ zs0 h hI0 hR0
 change VW a0 v0 v1=some zs0 at h
 unfold VW at h
 conv=>whnf
 refine ZC h (fun h=>?_) (fun h=>?_)
 conv=>whnf
 refine vAt h (fun x0 he1a he1b he1x h=>?_)
 conv=>whnf
 refine Yu h ?_
 rintro I2 μ2 ⟨v2,v3,⟨⟩⟩ zs2 h hI2 hR2
 change VQ v1 x0 v2 v3=some zs2 at h
 unfold VQ at h
 conv=>whnf
 refine ZC h (fun h=>?_) (fun h=>?_)
 conv=>whnf
 refine vAt h (fun x1 he3a he3b he3x h=>?_)
 conv=>whnf
 refine YU h (fun hp4 h=>?_)
 conv=>whnf
 cases h
 exact ⟨⟨rfl,rfl⟩,hI2 _ rfl⟩
 conv=>whnf
 cases h
 obtain rfl:=hR2 _ rfl
 exact ⟨⟨rfl,rfl⟩,hI0 _ rfl⟩
 conv=>whnf
 refine Yu h ?_
 rintro I5 μ5 ⟨v2,v3,⟨⟩⟩ zs5 h hI5 hR5
 change V4 a0 v2 v3=some zs5 at h
 unfold V4 at h
 conv=>whnf
 refine ZC h (fun h=>?_) (fun h=>?_)
 conv=>whnf
 refine ⟨by kernel_rfl,?_⟩
 conv=>whnf
 refine vAt h (fun x0 he6a he6b he6x h=>?_)
 conv=>whnf
 refine ⟨he6a,he6b,Zv he6x ?_⟩
 conv=>whnf
 refine YU h (fun hp7 h=>?_)
 conv=>whnf
 refine ⟨trivial,?_⟩
 conv=>whnf
 cases h
 exact ⟨⟨rfl,rfl⟩,hI5 _ rfl⟩
 conv=>whnf
 cases h
 obtain rfl:=hR5 _ rfl
 obtain rfl:=hR0 _ rfl
 exact hK
theorem w90:Zc Tryz.prog 150 c90:=by
 refine Zf YO Zj mixed {draws:=[(3,[0,1,0,4,15,31,63,0,128,0,1023,2047],.op 0 (.op 1 (.op 2 (.op 3 (.op 4 (.op 5 (.op 6 (.op 7 (.op 8 (.op 9 (.op 10 (.alt 11 (.done) (.done)))))))))))))]} (fn:=Tryz.f150) Tryz.func150 (by kernel_rfl) (by kernel_rfl) ?_
 rintro ⟨d0,p0,net0,⟨⟩⟩ K ⟨r,h,hK⟩
 change Vr d0 p0 net0=some r at h
 unfold Vr at h
 conv=>whnf
 intro fp0
 conv=>whnf
 refine ZC h (fun h=>?_) (fun h=>?_)
 conv=>whnf
 refine vAt h (fun x0 he1a he1b he1x h=>?_)
 conv=>whnf
 refine ⟨by kernel_rfl,?_⟩
 conv=>whnf
 refine ⟨by decide,?_⟩
 conv=>whnf
 refine ⟨he1a,he1b,Zv he1x ?_⟩
 conv=>whnf
 cases h
 exact hK
 conv=>whnf
 refine ⟨by kernel_rfl,?_⟩
 conv=>whnf
 refine vAt h (fun x0 he2a he2b he2x h=>?_)
 conv=>whnf
 refine ⟨he2a,he2b,Zv he2x ?_⟩
 conv=>whnf
 intro fp3
 conv=>whnf
 refine vAt h (fun x1 he4a he4b he4x h=>?_)
 conv=>whnf
 refine ⟨by kernel_rfl,?_⟩
 conv=>whnf
 refine ⟨by decide,?_⟩
 conv=>whnf
 refine ⟨he4a,he4b,Zv he4x ?_⟩
 conv=>whnf
 refine ⟨trivial,?_⟩
 conv=>whnf
 cases h
 exact hK
theorem w74 (q1:Zc Tryz.prog 134 c61) (q3:Zc Tryz.prog 175 c67) (q2:Zc Tryz.prog 176 c68) (q6:Zc Tryz.prog 177 c47) (q0:Zc Tryz.prog 178 c69) (q4:Zc Tryz.prog 179 c71) (q7:Zc Tryz.prog 180 c73) (q5:Zc Tryz.prog 82 c62) (q8:Zc Tryz.prog 81 c63):Zc Tryz.prog 112 c74:=by
 refine Zf Zq (Ze q1 (Ze q3 (Ze q2 (Ze q6 (Ze q0 (Ze q4 (Ze q7 (Ze q5 (Ze q8 Zj))))))))) mixed {draws:=[(5,[0,1,3,7,15,31,63,127,255,511,1023,255,2303,6399,255,16639,63743,129279,260351,524287,1048575,255,2097407,6291711,255,16777471,65011967,132120831,268435455,536870911,1073741823],.op 0 (.op 1 (.op 2 (.op 3 (.op 4 (.op 5 (.op 6 (.op 7 (.op 8 (.op 9 (.op 10 (.op 11 (.op 12 (.op 13 (.op 14 (.op 15 (.op 16 (.op 17 (.op 18 (.op 19 (.op 20 (.op 21 (.op 22 (.op 23 (.op 24 (.op 25 (.op 26 (.op 27 (.alt 28 (.op 29 (.op 30 (.done))) (.done)))))))))))))))))))))))))))))),(11,[0,0,2,7,15,31,63,127,255,255,767,2047,4095,8191,255,16639,65535,131071,262143],.op 0 (.op 1 (.op 2 (.op 3 (.op 4 (.op 5 (.op 6 (.op 7 (.op 8 (.op 9 (.op 10 (.op 11 (.op 12 (.op 13 (.op 14 (.op 15 (.op 16 (.op 17 (.op 18 (.done)))))))))))))))))))),(12,[0,1,0,4,0,16,60,124,255,511],.op 0 (.op 1 (.op 2 (.op 3 (.op 4 (.op 5 (.alt 6 (.op 7 (.alt 8 (.op 9 (.done)) (.done))) (.done))))))))]} (fn:=Tryz.f112) Tryz.func112 (by kernel_rfl) (by kernel_rfl) ?_
 rintro ⟨a0,a1,⟨⟩⟩ K ⟨r,h,hK⟩
 change Zcs a0 a1=some r at h
 unfold Zcs at h
 conv=>whnf
 refine Zl h (fun l05Places0 hb0 h=>?_)
 conv=>whnf
 refine ZC h (fun h=>?_) (fun h=>?_)
 conv=>whnf
 refine vAt h (fun x0 he1a he1b he1x h=>?_)
 conv=>whnf
 refine ⟨by kernel_rfl,?_⟩
 conv=>whnf
 refine ⟨he1a,he1b,Zv he1x ?_⟩
 conv=>whnf
 refine ⟨by kernel_rfl,?_⟩
 conv=>whnf
 refine ZC h (fun h=>?_) (fun h=>?_)
 conv=>whnf
 refine YN h (fun h=>?_) (fun h=>?_)
 conv=>whnf
 refine vAt h (fun x1 he2a he2b he2x h=>?_)
 conv=>whnf
 refine vAt h (fun x2 he3a he3b he3x h=>?_)
 conv=>whnf
 refine vAt h (fun x3 he4a he4b he4x h=>?_)
 conv=>whnf
 refine Zl h (fun l08Alike0 hb5 h=>?_)
 conv=>whnf
 refine ⟨trivial,?_⟩
 conv=>whnf
 cases h
 exact hK
 conv=>whnf
 refine ⟨trivial,?_⟩
 conv=>whnf
 cases h
 exact hK
 conv=>whnf
 refine ⟨trivial,?_⟩
 conv=>whnf
 cases h
 exact hK
 conv=>whnf
 refine ZC h (fun h=>?_) (fun h=>?_)
 conv=>whnf
 refine vAt h (fun x0 he6a he6b he6x h=>?_)
 conv=>whnf
 refine ⟨by kernel_rfl,?_⟩
 conv=>whnf
 refine ⟨he6a,he6b,Zv he6x ?_⟩
 conv=>whnf
 refine Ya ?_
 refine YN h (fun h=>?_) (fun h=>?_)
 conv=>whnf
 cases h
 exact hK
 conv=>whnf
 refine vAt h (fun x1 he7a he7b he7x h=>?_)
 conv=>whnf
 refine Zl h (fun l08Buffer0 hb8 h=>?_)
 conv=>whnf
 refine YN h (fun h=>?_) (fun h=>?_)
 conv=>whnf
 refine Zl h (fun l03Name0 hb9 h=>?_)
 conv=>whnf
 refine YN h (fun h=>?_) (fun h=>?_)
 conv=>whnf
 refine Zl h (fun InstanceNamed0 hb10 h=>?_)
 conv=>whnf
 refine ZC h (fun h=>?_) (fun h=>?_)
 conv=>whnf
 refine Zl h (fun NetNamed0 hb11 h=>?_)
 conv=>whnf
 cases h
 exact hK
 conv=>whnf
 cases h
 exact hK
 conv=>whnf
 cases h
 exact hK
 conv=>whnf
 cases h
 exact hK
 conv=>whnf
 refine ZC h (fun h=>?_) (fun h=>?_)
 conv=>whnf
 refine Zl h (fun l08Last0 hb12 h=>?_)
 conv=>whnf
 cases h
 exact hK
 conv=>whnf
 refine ZC h (fun h=>?_) (fun h=>?_)
 conv=>whnf
 refine ⟨by kernel_rfl,?_⟩
 conv=>whnf
 refine vAt h (fun x0 he13a he13b he13x h=>?_)
 conv=>whnf
 refine ⟨by kernel_rfl,?_⟩
 conv=>whnf
 refine ⟨he13a,he13b,Zv he13x ?_⟩
 conv=>whnf
 refine Ya ?_
 refine YN h (fun h=>?_) (fun h=>?_)
 conv=>whnf
 refine ⟨trivial,?_⟩
 conv=>whnf
 cases h
 exact hK
 conv=>whnf
 refine ⟨he13a,he13b,Zv he13x ?_⟩
 conv=>whnf
 refine ⟨by kernel_rfl,?_⟩
 conv=>whnf
 refine ⟨he13a,he13b,Zv he13x ?_⟩
 conv=>whnf
 refine ⟨trivial,?_⟩
 conv=>whnf
 cases h
 exact hK
 conv=>whnf
 refine ⟨by kernel_rfl,?_⟩
 conv=>whnf
 refine Zl h (fun l05Sinks0 hb14 h=>?_)
 conv=>whnf
 refine Zl h (fun IsWire0 hb15 h=>?_)
 conv=>whnf
 refine ⟨trivial,?_⟩
 conv=>whnf
 cases h
 exact hK
theorem w78:Zc Tryz.prog 182 c78:=by
 refine Zf Zq Zj mixed {} (fn:=Tryz.f182) Tryz.func182 (by kernel_rfl) (by kernel_rfl) ?_
 rintro ⟨s0,⟨⟩⟩ K ⟨r,h,hK⟩
 change ZcN s0=some r at h
 unfold ZcN at h
 conv=>whnf
 refine ZC h (fun h=>?_) (fun h=>?_)
 conv=>whnf
 refine ZC h (fun h=>?_) (fun h=>?_)
 conv=>whnf
 cases h
 exact hK
 conv=>whnf
 cases h
 exact hK
 conv=>whnf
 cases h
 exact hK
theorem w97 (q0:Zc Tryz.prog 134 c61):Zc Tryz.prog 116 c97:=by
 refine Zf Zq (Ze q0 Zj) mixed {loops:=[(0,[.reg 5 (.own (.ol 2 (.flat (.int .i64)))),.reg 8 (.dat (.int .i64))])]} (fn:=Tryz.f116) Tryz.func116 (by kernel_rfl) (by kernel_rfl) ?_
 rintro ⟨b0,e0,⟨⟩⟩ K ⟨r,h,hK⟩
 change ZbC b0 e0=some r at h
 unfold ZbC at h
 conv=>whnf
 refine Zl h (fun l05Places0 hb0 h=>?_)
 conv=>whnf
 refine Yu h ?_
 rintro I1 μ1 ⟨out0,p0,⟨⟩⟩ zs1 h hI1 hR1
 change QO b0 e0 l05Places0 out0 p0=some zs1 at h
 unfold QO at h
 conv=>whnf
 refine ZC h (fun h=>?_) (fun h=>?_)
 conv=>whnf
 refine ZC h (fun h=>?_) (fun h=>?_)
 conv=>whnf
 refine ZC h (fun h=>?_) (fun h=>?_)
 conv=>whnf
 refine YU h (fun hp2 h=>?_)
 conv=>whnf
 cases h
 exact ⟨⟨rfl,rfl⟩,hI1 _ rfl⟩
 conv=>whnf
 refine ZC h (fun h=>?_) (fun h=>?_)
 conv=>whnf
 refine ZC h (fun h=>?_) (fun h=>?_)
 conv=>whnf
 refine YU h (fun hp3 h=>?_)
 conv=>whnf
 cases h
 exact ⟨⟨rfl,rfl⟩,hI1 _ rfl⟩
 conv=>whnf
 refine ZC h (fun h=>?_) (fun h=>?_)
 conv=>whnf
 refine ZC h (fun h=>?_) (fun h=>?_)
 conv=>whnf
 refine YU h (fun hp4 h=>?_)
 conv=>whnf
 cases h
 exact ⟨⟨rfl,rfl⟩,hI1 _ rfl⟩
 conv=>whnf
 refine YU h (fun hp5 h=>?_)
 conv=>whnf
 cases h
 exact ⟨⟨rfl,rfl⟩,hI1 _ rfl⟩
 conv=>whnf
 refine YU h (fun hp6 h=>?_)
 conv=>whnf
 cases h
 exact ⟨⟨rfl,rfl⟩,hI1 _ rfl⟩
 conv=>whnf
 refine ZC h (fun h=>?_) (fun h=>?_)
 conv=>whnf
 refine ZC h (fun h=>?_) (fun h=>?_)
 conv=>whnf
 refine YU h (fun hp7 h=>?_)
 conv=>whnf
 cases h
 exact ⟨⟨rfl,rfl⟩,hI1 _ rfl⟩
 conv=>whnf
 refine YU h (fun hp8 h=>?_)
 conv=>whnf
 cases h
 exact ⟨⟨rfl,rfl⟩,hI1 _ rfl⟩
 conv=>whnf
 refine YU h (fun hp9 h=>?_)
 conv=>whnf
 cases h
 exact ⟨⟨rfl,rfl⟩,hI1 _ rfl⟩
 conv=>whnf
 refine ZC h (fun h=>?_) (fun h=>?_)
 conv=>whnf
 refine ZC h (fun h=>?_) (fun h=>?_)
 conv=>whnf
 refine YU h (fun hp10 h=>?_)
 conv=>whnf
 cases h
 exact ⟨⟨rfl,rfl⟩,hI1 _ rfl⟩
 conv=>whnf
 refine ZC h (fun h=>?_) (fun h=>?_)
 conv=>whnf
 refine ZC h (fun h=>?_) (fun h=>?_)
 conv=>whnf
 refine YU h (fun hp11 h=>?_)
 conv=>whnf
 cases h
 exact ⟨⟨rfl,rfl⟩,hI1 _ rfl⟩
 conv=>whnf
 refine YU h (fun hp12 h=>?_)
 conv=>whnf
 cases h
 exact ⟨⟨rfl,rfl⟩,hI1 _ rfl⟩
 conv=>whnf
 refine YU h (fun hp13 h=>?_)
 conv=>whnf
 cases h
 exact ⟨⟨rfl,rfl⟩,hI1 _ rfl⟩
 conv=>whnf
 refine ZC h (fun h=>?_) (fun h=>?_)
 conv=>whnf
 refine ZC h (fun h=>?_) (fun h=>?_)
 conv=>whnf
 refine YU h (fun hp14 h=>?_)
 conv=>whnf
 cases h
 exact ⟨⟨rfl,rfl⟩,hI1 _ rfl⟩
 conv=>whnf
 refine YU h (fun hp15 h=>?_)
 conv=>whnf
 cases h
 exact ⟨⟨rfl,rfl⟩,hI1 _ rfl⟩
 conv=>whnf
 refine YU h (fun hp16 h=>?_)
 conv=>whnf
 cases h
 exact ⟨⟨rfl,rfl⟩,hI1 _ rfl⟩
 conv=>whnf
 cases h
 obtain rfl:=hR1 _ rfl
 exact hK
end Go.Proofs.YtfndhpjedmopdaaGreatDoor
