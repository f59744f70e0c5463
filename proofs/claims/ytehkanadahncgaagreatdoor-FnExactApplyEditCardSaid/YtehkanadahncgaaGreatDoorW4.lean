/-
  The functions keep their contracts, if what they call does. Printed by program.
-/
import Derived.Test.YtehkanadahncgaaGreatDoorM
import Derived.KernelRfl
namespace Go.Proofs.YtehkanadahncgaaGreatDoor
open Go Go.Sx
set_option maxRecDepth 100000
set_option maxHeartbeats 3200000
set_option linter.unusedVariables false
set_option linter.unusedSimpArgs false
theorem ZBM (q0:Zc Tryz.prog 156 Zvp) (q1:Zc Tryz.prog 181 c148):Zc Tryz.prog 185 ZxF:=by
 refine Zg Zq (Ze q0 (Ze q1 Zj)) mixed {draws:=[(6,[0,1,3,0,8,31,63,127,255,511,1023,2047,4095,8191,1023,32767,65535,131071,262143,524287,1048575,2097151,262143,8388607,16777215,33554431,67108863,134217727,67108863,536870911,1073741823,67108863,2214592511,8589934591,17179869183],.op 0 (.op 1 (.op 2 (.op 3 (.op 4 (.op 5 (.op 6 (.alt 7 (.op 8 (.op 9 (.op 10 (.op 11 (.op 12 (.op 13 (.op 14 (.op 15 (.op 16 (.op 17 (.op 18 (.op 19 (.op 20 (.op 21 (.op 22 (.op 23 (.op 24 (.op 25 (.op 26 (.op 27 (.op 28 (.op 29 (.op 30 (.op 31 (.op 32 (.op 33 (.op 34 (.done)))))))))))))))))))))))))))) (.done)))))))))]} (fn:=Tryz.f185) Tryz.func185 (by kernel_rfl) (by kernel_rfl) ?_
 rintro ⟨a0,⟨⟩⟩ K ⟨r,h,hK⟩
 change XW a0=some r at h
 unfold XW at h
 conv=>whnf
 refine Zx h (fun h=>?_) (fun h=>?_)
 conv=>whnf
 cases h
 exact hK
 conv=>whnf
 refine vAt h (fun x0 he0a he0b he0x h=>?_)
 conv=>whnf
 refine Zk h (fun string0 hb1 h=>?_)
 conv=>whnf
 refine ⟨by kernel_rfl,?_⟩
 conv=>whnf
 refine vAt h (fun x1 he2a he2b he2x h=>?_)
 conv=>whnf
 refine Zk h (fun isBuffer0 hb3 h=>?_)
 conv=>whnf
 refine ZeV ?_
 refine YI h (fun h=>?_) (fun h=>?_)
 conv=>whnf
 refine vAt h (fun x2 he4a he4b he4x h=>?_)
 conv=>whnf
 refine ZeV ?_
 refine Zx h (fun h=>?_) (fun h=>?_)
 conv=>whnf
 refine vAt h (fun x3 he5a he5b he5x h=>?_)
 conv=>whnf
 refine Zld h (fun h=>?_) (fun h=>?_)
 conv=>whnf
 refine ⟨trivial,?_⟩
 conv=>whnf
 cases h
 exact hK
 conv=>whnf
 refine vAt h (fun x4 he6a he6b he6x h=>?_)
 conv=>whnf
 refine ⟨trivial,?_⟩
 conv=>whnf
 refine Z7 ?_
 refine Zx h (fun h=>?_) (fun h=>?_)
 conv=>whnf
 refine vAt h (fun x5 he7a he7b he7x h=>?_)
 conv=>whnf
 refine Zx h (fun h=>?_) (fun h=>?_)
 conv=>whnf
 refine Zx h (fun h=>?_) (fun h=>?_)
 conv=>whnf
 refine vAt h (fun x6 he8a he8b he8x h=>?_)
 conv=>whnf
 cases h
 exact hK
 conv=>whnf
 cases h
 exact hK
 conv=>whnf
 cases h
 exact hK
 conv=>whnf
 cases h
 exact hK
 conv=>whnf
 refine ⟨trivial,?_⟩
 conv=>whnf
 cases h
 exact hK
 conv=>whnf
 refine ⟨trivial,?_⟩
 conv=>whnf
 cases h
 exact hK
theorem ZAV (q0:Zc Tryz.prog 70 Zr6):Zc Tryz.prog 104 c168:=by
 refine Zg Zq (Ze q0 Zj) mixed {loops:=[(0,[.reg 16 (.dat (.int .i64)),.entm 1 (Zo2.ty) (Zo2.ety),.ent 2 (nat_lit 3) (.flat Zpt.ety)])],draws:=[(7,[0,0,2,0,8,30,0,64,0,256,960,1984,4032,0,0,16384,57344,122880,262080,524224,1048575],.op 0 (.op 1 (.op 2 (.op 3 (.op 4 (.op 5 (.op 6 (.op 7 (.op 8 (.op 9 (.op 10 (.op 11 (.op 12 (.op 13 (.op 14 (.op 15 (.op 16 (.op 17 (.op 18 (.op 19 (.alt 20 (.done) (.done))))))))))))))))))))))]} (fn:=Tryz.f104) Tryz.func104 (by kernel_rfl) (by kernel_rfl) ?_
 rintro ⟨b0,⟨⟩⟩ K ⟨r,h,hK⟩
 change XM b0=some r at h
 unfold XM at h
 conv=>whnf
 refine QZ h (fun hp0 h=>?_)
 conv=>whnf
 refine QZ h (fun hp1 h=>?_)
 conv=>whnf
 refine QZ h (fun hp2 h=>?_)
 conv=>whnf
 refine QZ h (fun hp3 h=>?_)
 conv=>whnf
 refine Zk h (fun places0 hb4 h=>?_)
 conv=>whnf
 refine Yk h ?_
 rintro I5 μ5 ⟨v0,m0,l0,⟨⟩⟩ zs5 h hI5 hR5
 change Qg b0 places0 v0 m0 l0=some zs5 at h
 unfold Qg at h
 conv=>whnf
 refine Zx h (fun h=>?_) (fun h=>?_)
 conv=>whnf
 refine vAt h (fun x0 he6a he6b he6x h=>?_)
 conv=>whnf
 refine ⟨by kernel_rfl,?_⟩
 conv=>whnf
 refine ⟨he6a,he6b,Zo he6x ?_⟩
 conv=>whnf
 refine Z7 ?_
 refine YI h (fun h=>?_) (fun h=>?_)
 conv=>whnf
 cases h
 exact ⟨⟨rfl,rfl⟩,hI5 _ rfl⟩
 conv=>whnf
 refine ⟨by kernel_rfl,?_⟩
 conv=>whnf
 refine vAt h (fun x1 he7a he7b he7x h=>?_)
 conv=>whnf
 refine vAt h (fun x2 he8a he8b he8x h=>?_)
 conv=>whnf
 refine ⟨by kernel_rfl,?_⟩
 conv=>whnf
 refine ⟨he8a,he8b,Zo he8x ?_⟩
 conv=>whnf
 refine vAt h (fun x3 he9a he9b he9x h=>?_)
 conv=>whnf
 refine ⟨trivial,?_⟩
 conv=>whnf
 refine ⟨he8a,he8b,Zo he8x ?_⟩
 conv=>whnf
 refine ⟨by kernel_rfl,?_⟩
 conv=>whnf
 refine ⟨he8a,he8b,Zo he8x ?_⟩
 conv=>whnf
 refine ⟨he8a,he8b,Zo he8x ?_⟩
 conv=>whnf
 refine ⟨by kernel_rfl,?_⟩
 conv=>whnf
 refine ⟨by decide,?_⟩
 conv=>whnf
 refine ⟨he8a,he8b,Zo he8x ?_⟩
 conv=>whnf
 cases h
 exact ⟨⟨rfl,rfl⟩,hI5 _ rfl⟩
 conv=>whnf
 cases h
 obtain rfl:=hR5 _ rfl
 exact hK
theorem ZyH (q0:Zc Tryz.prog 199 c162) (q2:Zc Tryz.prog 200 Zx3) (q1:Zc Tryz.prog 201 c164) (q3:Zc Tryz.prog 159 Zvs):Zc Tryz.prog 150 Zyq:=by
 refine Zg YS (Ze q0 (Ze q2 (Ze q1 (Ze q3 Zj)))) mixed {loops:=[(0,[.reg 19 (.dat (.int .i64)),.splt 1300 124 (ZbN)])],draws:=[(1,[0,1,3,0,8,31,0,64,255,511,0,2047],.op 0 (.op 1 (.op 3 (.op 4 (.op 6 (.op 7 (.alt 2 (.alt 5 (.alt 8 (.op 9 (.alt 10 (.alt 11 (.done) (.done)) (.done))) (.alt 10 (.alt 8 (.op 9 (.alt 11 (.done) (.done))) (.done)) (.done))) (.alt 10 (.alt 5 (.alt 8 (.op 9 (.alt 11 (.done) (.done))) (.done)) (.done)) (.done))) (.alt 10 (.alt 2 (.alt 5 (.alt 8 (.op 9 (.alt 11 (.done) (.done))) (.done)) (.done)) (.done)) (.done))))))))),(5,[0,1,0,0,8,24,63,127,255],.op 0 (.op 1 (.op 2 (.op 3 (.op 4 (.alt 5 (.op 6 (.op 7 (.alt 8 (.done) (.done)))) (.done)))))))]} (fn:=Tryz.f150) Tryz.func150 (by kernel_rfl) (by kernel_rfl) ?_
 rintro ⟨d0,⟨⟩⟩ K ⟨r,h,hK⟩
 change Jo d0=some r at h
 unfold Jo at h
 focus
  conv=>whnf
  refine ⟨by kernel_rfl,?_⟩
  conv=>whnf
  obtain ⟨Instance0,hb0,h⟩:=Option.bind_eq_some_iff.1 h
  obtain ⟨string0,hb1,h⟩:=Option.bind_eq_some_iff.1 h
  obtain ⟨Port0,hb2,h⟩:=Option.bind_eq_some_iff.1 h
  refine ⟨?_,?_⟩
  rotate_left
  focus
   conv=>whnf
   refine ⟨_,hb0,?_⟩
   conv=>whnf
   refine ⟨_,hb1,?_⟩
   conv=>whnf
   refine ⟨_,hb2,?_⟩
   conv=>whnf
   refine ⟨trivial,?_⟩
  rotate_right
  focus
   conv=>whnf
   refine ⟨_,hb0,?_⟩
   conv=>whnf
   refine ⟨?_,?_⟩
   rotate_left
   focus
    conv=>whnf
    refine ⟨_,hb1,?_⟩
    conv=>whnf
    refine ⟨_,hb2,?_⟩
    conv=>whnf
    refine ⟨trivial,?_⟩
   rotate_right
   focus
    conv=>whnf
    refine ⟨_,hb1,?_⟩
    conv=>whnf
    refine ⟨?_,?_⟩
    rotate_left
    focus
     conv=>whnf
     refine ⟨_,hb2,?_⟩
     conv=>whnf
     refine ⟨trivial,?_⟩
    rotate_right
    focus
     conv=>whnf
     refine ⟨_,hb2,?_⟩
     conv=>whnf
     refine ⟨trivial,?_⟩
  all_goals
   conv=>whnf
   refine Yk h ?_
   rintro I3 μ3 ⟨v0,l0,⟨⟩⟩ zs3 h hI3 hR3
   change QJ Instance0 string0 Port0 v0 l0=some zs3 at h
   unfold QJ at h
   conv=>whnf
   intro fp4
   conv=>whnf
   refine Zx h (fun h=>?_) (fun h=>?_)
   conv=>whnf
   refine vAt h (fun x0 he5a he5b he5x h=>?_)
   conv=>whnf
   refine QZ h (fun hp6 h=>?_)
   conv=>whnf
   refine ⟨he5a,he5b,Zo he5x ?_⟩
   conv=>whnf
   refine ⟨by kernel_rfl,?_⟩
   conv=>whnf
   refine Zk h (fun int64_0 hb7 h=>?_)
   conv=>whnf
   refine ⟨he5a,he5b,Zo he5x ?_⟩
   conv=>whnf
   refine QZ h (fun hp8 h=>?_)
   conv=>whnf
   refine vAt h (fun x1 he9a he9b he9x h=>?_)
   conv=>whnf
   refine ⟨trivial,?_⟩
   conv=>whnf
   cases h
   exact ⟨⟨rfl,rfl⟩,hI3 _ rfl⟩
   conv=>whnf
   refine QZ h (fun hp10 h=>?_)
   conv=>whnf
   cases h
   obtain rfl:=hR3 _ rfl
   exact hK
theorem ZAx (q0:Zc Tryz.prog 133 ZvD):Zc Tryz.prog 189 c127:=by
 refine Zg Zq (Ze q0 Zj) mixed {} (fn:=Tryz.f189) Tryz.func189 (by kernel_rfl) (by kernel_rfl) ?_
 rintro ⟨net0,a0,⟨⟩⟩ K ⟨r,h,hK⟩
 change YT net0 a0=some r at h
 unfold YT at h
 conv=>whnf
 refine Zk h (fun isNet0 hb0 h=>?_)
 conv=>whnf
 cases h
 exact hK
theorem ZAu (q6:Zc Tryz.prog 90 c167) (q1:Zc Tryz.prog 70 Zr6) (q4:Zc Tryz.prog 102 Zyh) (q0:Zc Tryz.prog 103 Zyk) (q2:Zc Tryz.prog 104 c168) (q5:Zc Tryz.prog 105 ZvT) (q3:Zc Tryz.prog 106 c171) (q7:Zc Tryz.prog 107 ZwA):Zc Tryz.prog 54 c175:=by
 refine Zg YS (Ze q6 (Ze q1 (Ze q4 (Ze q0 (Ze q2 (Ze q5 (Ze q3 (Ze q7 Zj)))))))) mixed {draws:=[(4,[0,1,3,0,8,24,0,64,248,504,1016,0,2048,8191,16383,32767],.op 0 (.op 1 (.op 2 (.op 3 (.op 4 (.op 6 (.op 7 (.op 11 (.op 12 (.alt 5 (.op 8 (.op 9 (.op 10 (.op 13 (.op 14 (.alt 15 (.done) (.done))))))) (.done))))))))))),(11,[0,1,3,0,8,31,63,0,255],.op 0 (.op 1 (.op 3 (.op 4 (.alt 2 (.op 5 (.op 6 (.alt 7 (.alt 8 (.done) (.done)) (.done)))) (.alt 7 (.alt 2 (.op 5 (.op 6 (.alt 8 (.done) (.done)))) (.done)) (.done))))))),(17,[0,1,0,4,0,16,48,127,255],.op 0 (.op 1 (.op 2 (.op 3 (.op 4 (.op 5 (.alt 6 (.op 7 (.alt 8 (.done) (.done))) (.done))))))))]} (fn:=Tryz.f54) Tryz.func54 (by kernel_rfl) (by kernel_rfl) ?_
 rintro ⟨a0,a1,⟨⟩⟩ K ⟨r,h,hK⟩
 change ZaL a0 a1=some r at h
 unfold ZaL at h
 conv=>whnf
 refine Zk h (fun clone0 hb0 h=>?_)
 conv=>whnf
 intro fp1
 conv=>whnf
 intro fp2
 conv=>whnf
 intro fp3
 conv=>whnf
 refine Zx h (fun h=>?_) (fun h=>?_)
 conv=>whnf
 refine ⟨by kernel_rfl,?_⟩
 conv=>whnf
 refine Zk h (fun places0 hb4 h=>?_)
 conv=>whnf
 refine vAt h (fun x0 he5a he5b he5x h=>?_)
 conv=>whnf
 refine ⟨by kernel_rfl,?_⟩
 conv=>whnf
 refine ⟨he5a,he5b,Zo he5x ?_⟩
 conv=>whnf
 refine vAt h (fun x1 he6a he6b he6x h=>?_)
 conv=>whnf
 refine ⟨he6a,he6b,Zo he6x ?_⟩
 conv=>whnf
 intro fp7
 conv=>whnf
 refine ⟨trivial,?_⟩
 conv=>whnf
 cases h
 exact hK
 conv=>whnf
 refine Zx h (fun h=>?_) (fun h=>?_)
 conv=>whnf
 refine Zk h (fun buffer0 hb8 h=>?_)
 conv=>whnf
 intro fp9
 conv=>whnf
 intro fp10
 conv=>whnf
 intro fp11
 conv=>whnf
 cases h
 exact hK
 conv=>whnf
 refine Zx h (fun h=>?_) (fun h=>?_)
 conv=>whnf
 refine Zk h (fun unbuffer0 hb12 h=>?_)
 conv=>whnf
 intro fp13
 conv=>whnf
 intro fp14
 conv=>whnf
 intro fp15
 conv=>whnf
 cases h
 exact hK
 conv=>whnf
 refine Zx h (fun h=>?_) (fun h=>?_)
 focus
  conv=>whnf
  refine Zk h (fun nodesOf0 hb16 h=>?_)
  conv=>whnf
  refine ⟨by kernel_rfl,?_⟩
  conv=>whnf
  obtain ⟨places0,hb17,h⟩:=Option.bind_eq_some_iff.1 h
  obtain ⟨x0,he18a,he18b,he18x,h⟩:=atE h
  refine ⟨?_,?_⟩
  rotate_left
  focus
   conv=>whnf
   refine ⟨_,hb17,?_⟩
   conv=>whnf
   refine ⟨he18a,he18b,Zo he18x ?_⟩
   conv=>whnf
   refine ⟨by kernel_rfl,?_⟩
   conv=>whnf
   refine ⟨he18a,he18b,Zo he18x ?_⟩
   conv=>whnf
   refine ⟨trivial,?_⟩
  rotate_right
  focus
   conv=>whnf
   refine ⟨_,hb17,?_⟩
   conv=>whnf
   refine ⟨he18a,he18b,Zo he18x ?_⟩
   conv=>whnf
   refine ⟨by kernel_rfl,?_⟩
   conv=>whnf
   refine ⟨he18a,he18b,Zo he18x ?_⟩
   conv=>whnf
   refine ⟨trivial,?_⟩
  all_goals
   conv=>whnf
   refine Zk h (fun setNet0 hb19 h=>?_)
   conv=>whnf
   intro fp20
   conv=>whnf
   intro fp21
   conv=>whnf
   intro fp22
   conv=>whnf
   refine Zk h (fun connect0 hb23 h=>?_)
   conv=>whnf
   intro fp24
   conv=>whnf
   intro fp25
   conv=>whnf
   intro fp26
   conv=>whnf
   cases h
   exact hK
 conv=>whnf
 refine Zx h (fun h=>?_) (fun h=>?_)
 conv=>whnf
 refine ⟨by kernel_rfl,?_⟩
 conv=>whnf
 refine Zk h (fun clone1 hb27 h=>?_)
 conv=>whnf
 refine vAt h (fun x0 he28a he28b he28x h=>?_)
 conv=>whnf
 refine ⟨he28a,he28b,Zo he28x ?_⟩
 conv=>whnf
 intro fp29
 conv=>whnf
 refine ⟨trivial,?_⟩
 conv=>whnf
 cases h
 exact hK
 conv=>whnf
 cases h
 exact hK
theorem ZzX (q7:Zc Tryz.prog 137 c85) (q5:Zc Tryz.prog 177 c139) (q6:Zc Tryz.prog 176 Zx7) (q2:Zc Tryz.prog 70 Zr6) (q0:Zc Tryz.prog 178 c143) (q1:Zc Tryz.prog 179 c124) (q3:Zc Tryz.prog 133 ZvD) (q4:Zc Tryz.prog 136 c93):Zc Tryz.prog 128 ZwV:=by
 refine Zg Zq (Ze q7 (Ze q5 (Ze q6 (Ze q2 (Ze q0 (Ze q1 (Ze q3 (Ze q4 Zj)))))))) mixed {draws:=[(1,[0,1,3,7,15,31,31,95,255,511,1023],.op 0 (.op 1 (.alt 2 (.op 3 (.op 4 (.op 5 (.op 6 (.alt 7 (.alt 8 (.op 9 (.op 10 (.done))) (.done)) (.done)))))) (.done)))),(3,[0,1,0,4,12,28,60,127,255],.op 0 (.op 1 (.op 2 (.op 3 (.alt 4 (.alt 5 (.op 6 (.alt 7 (.op 8 (.done)) (.done))) (.done)) (.done)))))),(7,[0,1,3,7,3,19,51,115,243,511,1023,2047],.op 0 (.op 1 (.op 2 (.op 3 (.op 4 (.op 5 (.op 6 (.alt 7 (.op 8 (.alt 9 (.op 10 (.op 11 (.done))) (.done))) (.done))))))))),(9,[0,1,3,7,3,19,63,127,255,511,1023,511,2559,511,8703,31231,63999,129535,260607,522751,1048575,2097151,4194303],.op 0 (.op 1 (.op 2 (.op 3 (.op 4 (.op 5 (.alt 6 (.op 7 (.op 8 (.op 9 (.op 10 (.op 11 (.op 12 (.op 13 (.op 14 (.op 15 (.op 16 (.op 17 (.alt 18 (.op 19 (.alt 20 (.op 21 (.op 22 (.done))) (.done))) (.done))))))))))))) (.done))))))))]} (fn:=Tryz.f128) Tryz.func128 (by kernel_rfl) (by kernel_rfl) ?_
 rintro ⟨a0,a1,⟨⟩⟩ K ⟨r,h,hK⟩
 change Vn a0 a1=some r at h
 unfold Vn at h
 conv=>whnf
 refine ⟨by kernel_rfl,?_⟩
 conv=>whnf
 refine Zk h (fun within0 hb0 h=>?_)
 conv=>whnf
 refine ZeV ?_
 refine YI h (fun h=>?_) (fun h=>?_)
 conv=>whnf
 refine Zk h (fun own0 hb1 h=>?_)
 conv=>whnf
 refine Zk h (fun sameEdit0 hb2 h=>?_)
 conv=>whnf
 refine ⟨trivial,?_⟩
 conv=>whnf
 refine Z7 ?_
 refine YI h (fun h=>?_) (fun h=>?_)
 conv=>whnf
 refine ⟨by kernel_rfl,?_⟩
 conv=>whnf
 refine Zk h (fun places0 hb3 h=>?_)
 conv=>whnf
 refine Zk h (fun place0 hb4 h=>?_)
 conv=>whnf
 refine Zk h (fun within1 hb5 h=>?_)
 conv=>whnf
 refine ⟨trivial,?_⟩
 conv=>whnf
 refine Zx h (fun h=>?_) (fun h=>?_)
 conv=>whnf
 refine Zx h (fun h=>?_) (fun h=>?_)
 conv=>whnf
 refine ⟨by kernel_rfl,?_⟩
 conv=>whnf
 refine YI h (fun h=>?_) (fun h=>?_)
 conv=>whnf
 refine Zk h (fun Cell0 hb6 h=>?_)
 conv=>whnf
 refine Zk h (fun within2 hb7 h=>?_)
 conv=>whnf
 refine ⟨trivial,?_⟩
 conv=>whnf
 cases h
 exact hK
 conv=>whnf
 refine ⟨trivial,?_⟩
 conv=>whnf
 cases h
 exact hK
 conv=>whnf
 refine Zx h (fun h=>?_) (fun h=>?_)
 conv=>whnf
 refine ⟨by kernel_rfl,?_⟩
 conv=>whnf
 refine YI h (fun h=>?_) (fun h=>?_)
 conv=>whnf
 refine Zk h (fun isNet0 hb8 h=>?_)
 conv=>whnf
 refine YI h (fun h=>?_) (fun h=>?_)
 conv=>whnf
 refine vAt h (fun x0 he9a he9b he9x h=>?_)
 conv=>whnf
 refine Zk h (fun int64_0 hb10 h=>?_)
 conv=>whnf
 refine Zk h (fun within2 hb11 h=>?_)
 conv=>whnf
 refine ⟨trivial,?_⟩
 conv=>whnf
 cases h
 exact hK
 conv=>whnf
 refine ⟨trivial,?_⟩
 conv=>whnf
 cases h
 exact hK
 conv=>whnf
 refine ⟨trivial,?_⟩
 conv=>whnf
 cases h
 exact hK
 conv=>whnf
 refine Zx h (fun h=>?_) (fun h=>?_)
 conv=>whnf
 refine Zk h (fun isNet0 hb12 h=>?_)
 conv=>whnf
 cases h
 exact hK
 conv=>whnf
 cases h
 exact hK
 conv=>whnf
 refine Zx h (fun h=>?_) (fun h=>?_)
 conv=>whnf
 refine ⟨by kernel_rfl,?_⟩
 conv=>whnf
 refine YI h (fun h=>?_) (fun h=>?_)
 conv=>whnf
 refine Zk h (fun Cell0 hb13 h=>?_)
 conv=>whnf
 refine Zk h (fun within2 hb14 h=>?_)
 conv=>whnf
 refine ⟨trivial,?_⟩
 conv=>whnf
 cases h
 exact hK
 conv=>whnf
 refine ⟨trivial,?_⟩
 conv=>whnf
 cases h
 exact hK
 conv=>whnf
 refine Zx h (fun h=>?_) (fun h=>?_)
 conv=>whnf
 refine ⟨by kernel_rfl,?_⟩
 conv=>whnf
 refine YI h (fun h=>?_) (fun h=>?_)
 conv=>whnf
 refine Zk h (fun isNet0 hb15 h=>?_)
 conv=>whnf
 refine YI h (fun h=>?_) (fun h=>?_)
 conv=>whnf
 refine vAt h (fun x0 he16a he16b he16x h=>?_)
 conv=>whnf
 refine Zk h (fun int64_0 hb17 h=>?_)
 conv=>whnf
 refine Zk h (fun within2 hb18 h=>?_)
 conv=>whnf
 refine ⟨trivial,?_⟩
 conv=>whnf
 cases h
 exact hK
 conv=>whnf
 refine ⟨trivial,?_⟩
 conv=>whnf
 cases h
 exact hK
 conv=>whnf
 refine ⟨trivial,?_⟩
 conv=>whnf
 cases h
 exact hK
 conv=>whnf
 refine Zx h (fun h=>?_) (fun h=>?_)
 conv=>whnf
 refine Zk h (fun isNet0 hb19 h=>?_)
 conv=>whnf
 cases h
 exact hK
 conv=>whnf
 cases h
 exact hK
 conv=>whnf
 cases h
 exact hK
 conv=>whnf
 refine ⟨trivial,?_⟩
 conv=>whnf
 cases h
 exact hK
theorem ZBB (q0:Zc Tryz.prog 215 ZwQ):Zc Tryz.prog 183 Zx9:=by
 refine Zg Zq (Ze q0 Zj) mixed {} (fn:=Tryz.f183) Tryz.func183 (by kernel_rfl) (by kernel_rfl) ?_
 rintro ⟨d0,name0,⟨⟩⟩ K ⟨r,h,hK⟩
 change VF d0 name0=some r at h
 unfold VF at h
 conv=>whnf
 refine Zk h (fun c1_0 hb0 h=>?_)
 conv=>whnf
 cases h
 exact hK
theorem ZyQ (q4:Zc Tryz.prog 130 Zw3) (q2:Zc Tryz.prog 131 Zyj) (q1:Zc Tryz.prog 132 c130) (q3:Zc Tryz.prog 133 ZvD) (q0:Zc Tryz.prog 134 ZxO):Zc Tryz.prog 69 Zyt:=by
 refine Zg Zq (Ze q4 (Ze q2 (Ze q1 (Ze q3 (Ze q0 Zj))))) mixed {loops:=[(0,[.reg 25 (.dat (.int .i64)),.ent 2 (nat_lit 3) (.flat Zpt.ety)]),(2,[.reg 51 (.dat (.int .i64)),.ent 2 (nat_lit 3) (.flat Zpt.ety)])]} (fn:=Tryz.f69) Tryz.func69 (by kernel_rfl) (by kernel_rfl) ?_
 rintro ⟨a0,a1,⟨⟩⟩ K ⟨r,h,hK⟩
 change Zcy a0 a1=some r at h
 unfold Zcy at h
 conv=>whnf
 refine Zk h (fun IsLibrary0 hb0 h=>?_)
 conv=>whnf
 refine ZeV ?_
 refine YI h (fun h=>?_) (fun h=>?_)
 conv=>whnf
 refine Zk h (fun hasNames0 hb1 h=>?_)
 conv=>whnf
 refine Z7 ?_
 refine YI h (fun h=>?_) (fun h=>?_)
 conv=>whnf
 refine QZ h (fun hp2 h=>?_)
 conv=>whnf
 refine QZ h (fun hp3 h=>?_)
 conv=>whnf
 refine QZ h (fun hp4 h=>?_)
 conv=>whnf
 refine QZ h (fun hp5 h=>?_)
 conv=>whnf
 refine Yk h ?_
 rintro I6 μ6 ⟨v0,l0,⟨⟩⟩ zs6 h hI6 hR6
 change Vl a0 a1 v0 l0=some zs6 at h
 unfold Vl at h
 conv=>whnf
 refine Zx h (fun h=>?_) (fun h=>?_)
 conv=>whnf
 refine vAt h (fun x0 he7a he7b he7x h=>?_)
 conv=>whnf
 refine Zk h (fun isInstance0 hb8 h=>?_)
 conv=>whnf
 refine Z7 ?_
 refine YI h (fun h=>?_) (fun h=>?_)
 conv=>whnf
 refine vAt h (fun x1 he9a he9b he9x h=>?_)
 conv=>whnf
 refine vAt h (fun x2 he10a he10b he10x h=>?_)
 conv=>whnf
 refine ⟨by kernel_rfl,?_⟩
 conv=>whnf
 refine ⟨he10a,he10b,Zo he10x ?_⟩
 conv=>whnf
 refine ⟨he10a,he10b,Zo he10x ?_⟩
 conv=>whnf
 refine ⟨by kernel_rfl,?_⟩
 conv=>whnf
 refine ⟨by decide,?_⟩
 conv=>whnf
 refine ⟨he10a,he10b,Zo he10x ?_⟩
 conv=>whnf
 cases h
 exact ⟨⟨rfl,rfl⟩,hI6 _ rfl⟩
 conv=>whnf
 cases h
 obtain rfl:=hR6 _ rfl
 exact hK
 conv=>whnf
 refine Yk h ?_
 rintro I11 μ11 ⟨v1,l1,⟨⟩⟩ zs11 h hI11 hR11
 change Qe a1 v1 l1=some zs11 at h
 unfold Qe at h
 conv=>whnf
 refine Zx h (fun h=>?_) (fun h=>?_)
 conv=>whnf
 refine vAt h (fun x0 he12a he12b he12x h=>?_)
 conv=>whnf
 refine Z7 ?_
 refine Zx h (fun h=>?_) (fun h=>?_)
 conv=>whnf
 refine Zk h (fun isNet0 hb13 h=>?_)
 conv=>whnf
 refine Z7 ?_
 refine YI h (fun h=>?_) (fun h=>?_)
 conv=>whnf
 refine Zx h (fun h=>?_) (fun h=>?_)
 conv=>whnf
 refine vAt h (fun x1 he14a he14b he14x h=>?_)
 conv=>whnf
 refine ⟨by kernel_rfl,?_⟩
 conv=>whnf
 refine ⟨he14a,he14b,Zo he14x ?_⟩
 conv=>whnf
 refine ⟨he14a,he14b,Zo he14x ?_⟩
 conv=>whnf
 refine ⟨by kernel_rfl,?_⟩
 conv=>whnf
 refine ⟨by decide,?_⟩
 conv=>whnf
 refine ⟨he14a,he14b,Zo he14x ?_⟩
 conv=>whnf
 cases h
 exact ⟨⟨rfl,rfl⟩,hI11 _ rfl⟩
 conv=>whnf
 cases h
 exact ⟨⟨rfl,rfl⟩,hI11 _ rfl⟩
 conv=>whnf
 cases h
 obtain rfl:=hR11 _ rfl
 obtain rfl:=hR6 _ rfl
 exact hK
 conv=>whnf
 refine ZeV ?_
 refine Zx h (fun h=>?_) (fun h=>?_)
 conv=>whnf
 refine Zk h (fun isNet0 hb15 h=>?_)
 conv=>whnf
 refine Z7 ?_
 refine YI h (fun h=>?_) (fun h=>?_)
 conv=>whnf
 refine Zx h (fun h=>?_) (fun h=>?_)
 conv=>whnf
 refine vAt h (fun x1 he16a he16b he16x h=>?_)
 conv=>whnf
 refine ⟨by kernel_rfl,?_⟩
 conv=>whnf
 refine ⟨he16a,he16b,Zo he16x ?_⟩
 conv=>whnf
 refine ⟨he16a,he16b,Zo he16x ?_⟩
 conv=>whnf
 refine ⟨by kernel_rfl,?_⟩
 conv=>whnf
 refine ⟨by decide,?_⟩
 conv=>whnf
 refine ⟨he16a,he16b,Zo he16x ?_⟩
 conv=>whnf
 cases h
 exact ⟨⟨rfl,rfl⟩,hI11 _ rfl⟩
 conv=>whnf
 cases h
 exact ⟨⟨rfl,rfl⟩,hI11 _ rfl⟩
 conv=>whnf
 cases h
 obtain rfl:=hR11 _ rfl
 obtain rfl:=hR6 _ rfl
 exact hK
 conv=>whnf
 cases h
 obtain rfl:=hR11 _ rfl
 obtain rfl:=hR6 _ rfl
 exact hK
 conv=>whnf
 refine Zk h (fun c1_0 hb17 h=>?_)
 conv=>whnf
 cases h
 obtain rfl:=hR11 _ rfl
 obtain rfl:=hR6 _ rfl
 exact hK
 conv=>whnf
 cases h
 exact hK
 conv=>whnf
 cases h
 exact hK
theorem ZAz (q0:Zc Tryz.prog 136 c93) (q3:Zc Tryz.prog 137 c85) (q1:Zc Tryz.prog 138 Zx2) (q2:Zc Tryz.prog 139 c97):Zc Tryz.prog 71 Zwg:=by
 refine Zg Zq (Ze q0 (Ze q3 (Ze q1 (Ze q2 Zj)))) mixed {} (fn:=Tryz.f71) Tryz.func71 (by kernel_rfl) (by kernel_rfl) ?_
 rintro ⟨w0,sinks0,⟨⟩⟩ K ⟨r,h,hK⟩
 change ZcZ w0 sinks0=some r at h
 unfold ZcZ at h
 conv=>whnf
 refine Zk h (fun int64_0 hb0 h=>?_)
 conv=>whnf
 refine Zk h (fun within0 hb1 h=>?_)
 conv=>whnf
 refine YI h (fun h=>?_) (fun h=>?_)
 conv=>whnf
 refine Zk h (fun int64_1 hb2 h=>?_)
 conv=>whnf
 refine Zx h (fun h=>?_) (fun h=>?_)
 conv=>whnf
 refine Zk h (fun int64_2 hb3 h=>?_)
 conv=>whnf
 refine Zx h (fun h=>?_) (fun h=>?_)
 conv=>whnf
 refine Zk h (fun isTree0 hb4 h=>?_)
 conv=>whnf
 refine YI h (fun h=>?_) (fun h=>?_)
 conv=>whnf
 refine Zk h (fun areWithin0 hb5 h=>?_)
 conv=>whnf
 refine YI h (fun h=>?_) (fun h=>?_)
 conv=>whnf
 refine Zk h (fun areWithin1 hb6 h=>?_)
 conv=>whnf
 refine YI h (fun h=>?_) (fun h=>?_)
 conv=>whnf
 refine Zk h (fun int64_3 hb7 h=>?_)
 conv=>whnf
 refine Zx h (fun h=>?_) (fun h=>?_)
 conv=>whnf
 refine Zk h (fun areWithin2 hb8 h=>?_)
 conv=>whnf
 cases h
 exact hK
 conv=>whnf
 cases h
 exact hK
 conv=>whnf
 cases h
 exact hK
 conv=>whnf
 cases h
 exact hK
 conv=>whnf
 cases h
 exact hK
 conv=>whnf
 cases h
 exact hK
 conv=>whnf
 cases h
 exact hK
 conv=>whnf
 cases h
 exact hK
theorem ZBj (q0:Zc Tryz.prog 159 Zvs):Zc Tryz.prog 198 c160:=by
 refine Zg YS (Ze q0 Zj) mixed {loops:=[(0,[.reg 3 (.own (.ol 263 (ZeB))),.reg 8 (.dat (.int .i64))])],draws:=[(5,[0,0,2,6,0,16,62,0,128,510,1022,2046,4095,8191],.op 0 (.op 1 (.op 2 (.op 4 (.op 5 (.op 7 (.op 8 (.alt 3 (.alt 6 (.alt 9 (.op 10 (.alt 11 (.alt 12 (.op 13 (.done)) (.done)) (.done))) (.done)) (.done)) (.done)))))))))]} (fn:=Tryz.f198) Tryz.func198 (by kernel_rfl) (by kernel_rfl) ?_
 rintro ⟨list0,⟨⟩⟩ K ⟨r,h,hK⟩
 change VR list0=some r at h
 unfold VR at h
 conv=>whnf
 refine Yk h ?_
 rintro I0 μ0 ⟨out0,v0,⟨⟩⟩ zs0 h hI0 hR0
 change XT list0 out0 v0=some zs0 at h
 unfold XT at h
 conv=>whnf
 intro fp1
 conv=>whnf
 refine Zx h (fun h=>?_) (fun h=>?_)
 conv=>whnf
 refine vAt h (fun x0 he2a he2b he2x h=>?_)
 conv=>whnf
 refine ⟨by kernel_rfl,?_⟩
 conv=>whnf
 refine Zk h (fun int64_0 hb3 h=>?_)
 conv=>whnf
 refine Zk h (fun int64_1 hb4 h=>?_)
 conv=>whnf
 refine Zk h (fun int64_2 hb5 h=>?_)
 conv=>whnf
 intro fp6
 conv=>whnf
 refine QZ h (fun hp7 h=>?_)
 conv=>whnf
 intro fp8
 conv=>whnf
 refine ⟨trivial,?_⟩
 conv=>whnf
 cases h
 exact ⟨⟨rfl,rfl⟩,hI0 _ rfl⟩
 conv=>whnf
 cases h
 obtain rfl:=hR0 _ rfl
 exact hK
theorem w98:Zc Tryz.prog 290 c98:=by
 refine Zg Zq Zj mixed {loops:=[(0,[.reg 3 (.dat (.int .i64))])],draws:=[(4,[0,0,2,7,15,0,0,96,224,511],.op 0 (.op 1 (.op 2 (.op 3 (.op 4 (.op 5 (.op 6 (.op 7 (.op 8 (.op 9 (.done)))))))))))]} (fn:=Tryz.f290) Tryz.func290 (by kernel_rfl) (by kernel_rfl) ?_
 rintro ⟨list0,⟨⟩⟩ K ⟨r,h,hK⟩
 change Jr list0=some r at h
 unfold Jr at h
 conv=>whnf
 refine Yk h ?_
 rintro I0 μ0 ⟨i0,⟨⟩⟩ zs0 h hI0 hR0
 change Y4 list0 i0=some zs0 at h
 unfold Y4 at h
 conv=>whnf
 refine Zx h (fun h=>?_) (fun h=>?_)
 conv=>whnf
 refine ⟨by kernel_rfl,?_⟩
 conv=>whnf
 refine vAt h (fun x0 he1a he1b he1x h=>?_)
 conv=>whnf
 refine vAt h (fun x1 he2a he2b he2x h=>?_)
 conv=>whnf
 refine ⟨trivial,?_⟩
 conv=>whnf
 refine Zx h (fun h=>?_) (fun h=>?_)
 conv=>whnf
 cases h
 obtain rfl:=hR0 _ rfl
 exact hK
 conv=>whnf
 cases h
 exact ⟨⟨rfl,rfl⟩,hI0 _ rfl⟩
 conv=>whnf
 cases h
 obtain rfl:=hR0 _ rfl
 exact hK
theorem w86 (q2:Zc Tryz.prog 137 c85) (q1:Zc Tryz.prog 213 Zii) (q0:Zc Tryz.prog 214 Zfb):Zc Tryz.prog 182 c86:=by
 refine Zg Zq (Ze q2 (Ze q1 (Ze q0 Zj))) mixed {} (fn:=Tryz.f182) Tryz.func182 (by kernel_rfl) (by kernel_rfl) ?_
 rintro ⟨s0,⟨⟩⟩ K ⟨r,h,hK⟩
 change ZbZ s0=some r at h
 unfold ZbZ at h
 conv=>whnf
 refine Zk h (fun within0 hb0 h=>?_)
 conv=>whnf
 refine YI h (fun h=>?_) (fun h=>?_)
 conv=>whnf
 refine QZ h (fun hp1 h=>?_)
 conv=>whnf
 refine ⟨by decide,?_⟩
 conv=>whnf
 refine ⟨by kernel_rfl,?_⟩
 conv=>whnf
 refine Zx h (fun h=>?_) (fun h=>?_)
 conv=>whnf
 refine vAt h (fun x0 he2a he2b he2x h=>?_)
 conv=>whnf
 cases h
 exact hK
 conv=>whnf
 cases h
 exact hK
 conv=>whnf
 cases h
 exact hK
theorem ZBq:Zc Tryz.prog 157 Zyb:=by
 refine Zg Zq Zj mixed {} (fn:=Tryz.f157) Tryz.func157 (by kernel_rfl) (by kernel_rfl) ?_
 rintro ⟨list0,⟨⟩⟩ K ⟨r,h,hK⟩
 change X4 list0=some r at h
 unfold X4 at h
 conv=>whnf
 cases h
 exact hK
theorem w93:Zc Tryz.prog 136 c93:=by
 refine Zg Zq Zj mixed {} (fn:=Tryz.f136) Tryz.func136 (by kernel_rfl) (by kernel_rfl) ?_
 rintro ⟨list0,⟨⟩⟩ K ⟨r,h,hK⟩
 change YH list0=some r at h
 unfold YH at h
 conv=>whnf
 cases h
 exact hK
theorem ZyV (q0:Zc Tryz.prog 43 Zxx) (q1:Zc Tryz.prog 44 Zxl) (q2:Zc Tryz.prog 45 c194):Zc Tryz.prog 14 Zxe:=by
 refine Zg Zq (Ze q0 (Ze q1 (Ze q2 Zj))) mixed {} (fn:=Tryz.f14) Tryz.func14 (by kernel_rfl) (by kernel_rfl) ?_
 rintro ⟨a0,b0,⟨⟩⟩ K ⟨r,h,hK⟩
 change Zb0 a0 b0=some r at h
 unfold Zb0 at h
 conv=>whnf
 refine Zk h (fun eqLibrary0 hb0 h=>?_)
 conv=>whnf
 refine Z7 ?_
 refine YI h (fun h=>?_) (fun h=>?_)
 conv=>whnf
 refine Zk h (fun eqDesign0 hb1 h=>?_)
 conv=>whnf
 refine Z7 ?_
 refine YI h (fun h=>?_) (fun h=>?_)
 conv=>whnf
 refine Zk h (fun eqWireS0 hb2 h=>?_)
 conv=>whnf
 refine Z7 ?_
 refine YI h (fun h=>?_) (fun h=>?_)
 conv=>whnf
 cases h
 exact hK
 conv=>whnf
 cases h
 exact hK
 conv=>whnf
 cases h
 exact hK
 conv=>whnf
 cases h
 exact hK
theorem ZzP (q1:Zc Tryz.prog 202 ZxI) (q2:Zc Tryz.prog 203 c183) (q0:Zc Tryz.prog 108 Zvo):Zc Tryz.prog 151 Zxs:=by
 refine Zg Zq (Ze q1 (Ze q2 (Ze q0 Zj))) mixed {} (fn:=Tryz.f151) Tryz.func151 (by kernel_rfl) (by kernel_rfl) ?_
 rintro ⟨a0,b0,⟨⟩⟩ K ⟨r,h,hK⟩
 change ZcU a0 b0=some r at h
 unfold ZcU at h
 conv=>whnf
 refine Z7 ?_
 refine Zx h (fun h=>?_) (fun h=>?_)
 conv=>whnf
 refine Z7 ?_
 refine Zx h (fun h=>?_) (fun h=>?_)
 conv=>whnf
 refine Zk h (fun eqPinS0 hb0 h=>?_)
 conv=>whnf
 refine Z7 ?_
 refine YI h (fun h=>?_) (fun h=>?_)
 conv=>whnf
 refine Zk h (fun eqArcS0 hb1 h=>?_)
 conv=>whnf
 refine Z7 ?_
 refine YI h (fun h=>?_) (fun h=>?_)
 conv=>whnf
 refine Zk h (fun eqInt64S0 hb2 h=>?_)
 conv=>whnf
 refine Z7 ?_
 refine YI h (fun h=>?_) (fun h=>?_)
 conv=>whnf
 refine Z7 ?_
 refine Zx h (fun h=>?_) (fun h=>?_)
 conv=>whnf
 refine Z7 ?_
 refine Zx h (fun h=>?_) (fun h=>?_)
 conv=>whnf
 cases h
 exact hK
 conv=>whnf
 cases h
 exact hK
 conv=>whnf
 cases h
 exact hK
 conv=>whnf
 cases h
 exact hK
 conv=>whnf
 cases h
 exact hK
 conv=>whnf
 cases h
 exact hK
 conv=>whnf
 cases h
 exact hK
 conv=>whnf
 cases h
 exact hK
theorem ZA4 (q0:Zc Tryz.prog 92 Zw1):Zc Tryz.prog 43 Zxx:=by
 refine Zg Zq (Ze q0 Zj) mixed {} (fn:=Tryz.f43) Tryz.func43 (by kernel_rfl) (by kernel_rfl) ?_
 rintro ⟨a0,b0,⟨⟩⟩ K ⟨r,h,hK⟩
 change Zbn a0 b0=some r at h
 unfold Zbn at h
 conv=>whnf
 refine Zk h (fun eqCellS0 hb0 h=>?_)
 conv=>whnf
 refine Z7 ?_
 refine YI h (fun h=>?_) (fun h=>?_)
 conv=>whnf
 cases h
 exact hK
 conv=>whnf
 cases h
 exact hK
theorem ZAU (q0:Zc Tryz.prog 227 ZwZ):Zc Tryz.prog 202 ZxI:=by
 refine Zg Zq (Ze q0 Zj) mixed {loops:=[(0,[.reg 5 (.dat (.int .i64))])],draws:=[(6,[0,0,3,7,0,0,48,112,255,511],.op 0 (.op 1 (.op 2 (.op 3 (.op 4 (.op 5 (.op 6 (.op 7 (.alt 8 (.op 9 (.done)) (.done))))))))))]} (fn:=Tryz.f202) Tryz.func202 (by kernel_rfl) (by kernel_rfl) ?_
 rintro ⟨a0,b0,⟨⟩⟩ K ⟨r,h,hK⟩
 change Zeu a0 b0=some r at h
 unfold Zeu at h
 conv=>whnf
 refine Z7 ?_
 refine Zx h (fun h=>?_) (fun h=>?_)
 conv=>whnf
 refine Yk h ?_
 rintro I0 μ0 ⟨i0,⟨⟩⟩ zs0 h hI0 hR0
 change Zev a0 b0 i0=some zs0 at h
 unfold Zev at h
 conv=>whnf
 refine Zx h (fun h=>?_) (fun h=>?_)
 conv=>whnf
 refine ⟨by kernel_rfl,?_⟩
 conv=>whnf
 refine vAt h (fun x0 he1a he1b he1x h=>?_)
 conv=>whnf
 refine vAt h (fun x1 he2a he2b he2x h=>?_)
 conv=>whnf
 refine Zk h (fun eqPin0 hb3 h=>?_)
 conv=>whnf
 refine ⟨trivial,?_⟩
 conv=>whnf
 refine Z7 ?_
 refine YI h (fun h=>?_) (fun h=>?_)
 conv=>whnf
 cases h
 exact ⟨⟨rfl,rfl⟩,hI0 _ rfl⟩
 conv=>whnf
 cases h
 obtain rfl:=hR0 _ rfl
 exact hK
 conv=>whnf
 cases h
 obtain rfl:=hR0 _ rfl
 exact hK
 conv=>whnf
 cases h
 exact hK
theorem ZAJ (q0:Zc Tryz.prog 108 Zvo):Zc Tryz.prog 269 ZxE:=by
 refine Zg Zq (Ze q0 Zj) mixed {} (fn:=Tryz.f269) Tryz.func269 (by kernel_rfl) (by kernel_rfl) ?_
 rintro ⟨a0,b0,⟨⟩⟩ K ⟨r,h,hK⟩
 change ZbR a0 b0=some r at h
 unfold ZbR at h
 conv=>whnf
 refine Zk h (fun eqInt64S0 hb0 h=>?_)
 conv=>whnf
 refine Z7 ?_
 refine YI h (fun h=>?_) (fun h=>?_)
 conv=>whnf
 refine Zk h (fun eqInt64S1 hb1 h=>?_)
 conv=>whnf
 refine Z7 ?_
 refine YI h (fun h=>?_) (fun h=>?_)
 conv=>whnf
 refine Zk h (fun eqInt64S2 hb2 h=>?_)
 conv=>whnf
 refine Z7 ?_
 refine YI h (fun h=>?_) (fun h=>?_)
 conv=>whnf
 cases h
 exact hK
 conv=>whnf
 cases h
 exact hK
 conv=>whnf
 cases h
 exact hK
 conv=>whnf
 cases h
 exact hK
theorem ZAQ:Zc Tryz.prog 51 c213:=by
 refine Zg Zq Zj mixed {loops:=[(0,[.reg 1 (.dat (.int .i64)),.reg 5 (.dat (.int .i64))])]} (fn:=Tryz.f51) Tryz.func51 (by kernel_rfl) (by kernel_rfl) ?_
 rintro ⟨a0,k0,⟨⟩⟩ K ⟨r,h,hK⟩
 change YO a0 k0=some r at h
 unfold YO at h
 conv=>whnf
 refine Yk h ?_
 rintro I0 μ0 ⟨k1,i0,⟨⟩⟩ zs0 h hI0 hR0
 change Qp a0 k1 i0=some zs0 at h
 unfold Qp at h
 conv=>whnf
 refine Zx h (fun h=>?_) (fun h=>?_)
 conv=>whnf
 refine vAt h (fun x0 he1a he1b he1x h=>?_)
 conv=>whnf
 refine Z7 ?_
 refine Zx h (fun h=>?_) (fun h=>?_)
 conv=>whnf
 cases h
 exact ⟨⟨rfl,rfl⟩,hI0 _ rfl⟩
 conv=>whnf
 cases h
 obtain rfl:=hR0 _ rfl
 exact hK
 conv=>whnf
 cases h
 obtain rfl:=hR0 _ rfl
 exact hK
theorem ZA9 (q0:Zc Tryz.prog 204 Zym):Zc Tryz.prog 155 c201:=by
 refine Zg YS (Ze q0 Zj) mixed {loops:=[(0,[.reg 1 (.dat (.int .i64)),.reg 5 (.dat (.int .i64)),.ent 0 (nat_lit 235) (Dp.pair (Dp.flat (Ty.int IntKind.i64)) (Dp.pair (Dp.flat (Ty.int IntKind.i64)) (Dp.pair (Dp.flat (Ty.int IntKind.i64)) (Dp.pair (Dp.flat (Ty.int IntKind.i64)) (Dp.pair (Dp.ol (263:Go.TypeId) ZeB) (Dp.pair (Dp.ol (263:Go.TypeId) ZeB) (Dp.flat Ty.unit)))))))])]} (fn:=Tryz.f155) Tryz.func155 (by kernel_rfl) (by kernel_rfl) ?_
 rintro ⟨a0,k0,⟨⟩⟩ K ⟨r,h,hK⟩
 change Zah a0 k0=some r at h
 unfold Zah at h
 conv=>whnf
 intro fp0
 conv=>whnf
 refine Yk h ?_
 rintro I1 μ1 ⟨k1,i0,l0,⟨⟩⟩ zs1 h hI1 hR1
 change Qb k1 i0 l0=some zs1 at h
 unfold Qb at h
 conv=>whnf
 intro fp2
 conv=>whnf
 refine Zx h (fun h=>?_) (fun h=>?_)
 conv=>whnf
 refine vAt h (fun x0 he3a he3b he3x h=>?_)
 conv=>whnf
 refine ⟨he3a,he3b,Zo he3x ?_⟩
 conv=>whnf
 intro fp4
 conv=>whnf
 intro fp5
 conv=>whnf
 intro fp6
 conv=>whnf
 refine ⟨he3a,he3b,Zo he3x ?_⟩
 conv=>whnf
 refine .inl ⟨rfl,?_⟩
 conv=>whnf
 refine ⟨he3a,he3b,Zo he3x ?_⟩
 conv=>whnf
 refine .inl ⟨rfl,?_⟩
 conv=>whnf
 refine ⟨he3a,he3b,Zo he3x ?_⟩
 conv=>whnf
 refine .inl ⟨rfl,?_⟩
 conv=>whnf
 refine ⟨he3a,he3b,Zo he3x ?_⟩
 conv=>whnf
 refine .inl ⟨rfl,?_⟩
 conv=>whnf
 refine Zk h (fun markTableS0 hb7 h=>?_)
 conv=>whnf
 intro fp8
 conv=>whnf
 refine ⟨he3a,he3b,Zo he3x ?_⟩
 conv=>whnf
 refine .inl ⟨rfl,?_⟩
 conv=>whnf
 refine Zk h (fun markTableS1 hb9 h=>?_)
 conv=>whnf
 intro fp10
 conv=>whnf
 cases h
 exact ⟨⟨rfl,rfl⟩,hI1 _ rfl⟩
 conv=>whnf
 cases h
 obtain rfl:=hR1 _ rfl
 exact hK
theorem Zz1 (q0:Zc Tryz.prog 97 Zxf) (q1:Zc Tryz.prog 98 ZxJ) (q2:Zc Tryz.prog 99 c206):Zc Tryz.prog 47 Zx0:=by
 refine Zg YS (Ze q0 (Ze q1 (Ze q2 Zj))) mixed {} (fn:=Tryz.f47) Tryz.func47 (by kernel_rfl) (by kernel_rfl) ?_
 rintro ⟨a0,k0,⟨⟩⟩ K ⟨r,h,hK⟩
 change Vy a0 k0=some r at h
 unfold Vy at h
 conv=>whnf
 intro fp0
 conv=>whnf
 refine Zk h (fun markInstanceS0 hb1 h=>?_)
 conv=>whnf
 intro fp2
 conv=>whnf
 refine Zk h (fun markStringS0 hb3 h=>?_)
 conv=>whnf
 refine Zk h (fun markPortS0 hb4 h=>?_)
 conv=>whnf
 cases h
 exact hK
theorem ZBR (q0:Zc Tryz.prog 50 Zu9):Zc Tryz.prog 48 c208:=by
 refine Zg YS (Ze q0 Zj) mixed {loops:=[(0,[.reg 1 (.dat (.int .i64)),.reg 5 (.dat (.int .i64)),.ent 0 (nat_lit 64) (Dp.pair (Dp.ol (2:Go.TypeId) (Dp.flat (Ty.int IntKind.i64))) (Dp.pair (Dp.ol (2:Go.TypeId) (Dp.flat (Ty.int IntKind.i64))) (Dp.pair (Dp.ol (2:Go.TypeId) (Dp.flat (Ty.int IntKind.i64))) (Dp.pair (Dp.ol (2:Go.TypeId) (Dp.flat (Ty.int IntKind.i64))) (Dp.flat Ty.unit)))))])]} (fn:=Tryz.f48) Tryz.func48 (by kernel_rfl) (by kernel_rfl) ?_
 rintro ⟨a0,k0,⟨⟩⟩ K ⟨r,h,hK⟩
 change Jl a0 k0=some r at h
 unfold Jl at h
 conv=>whnf
 intro fp0
 conv=>whnf
 refine Yk h ?_
 rintro I1 μ1 ⟨k1,i0,l0,⟨⟩⟩ zs1 h hI1 hR1
 change XK k1 i0 l0=some zs1 at h
 unfold XK at h
 conv=>whnf
 intro fp2
 conv=>whnf
 refine Zx h (fun h=>?_) (fun h=>?_)
 conv=>whnf
 refine vAt h (fun x0 he3a he3b he3x h=>?_)
 conv=>whnf
 refine ⟨he3a,he3b,Zo he3x ?_⟩
 conv=>whnf
 intro fp4
 conv=>whnf
 refine Zk h (fun markInt64S0 hb5 h=>?_)
 conv=>whnf
 refine ⟨he3a,he3b,Zo he3x ?_⟩
 conv=>whnf
 refine .inl ⟨rfl,?_⟩
 conv=>whnf
 refine Zk h (fun markInt64S1 hb6 h=>?_)
 conv=>whnf
 refine ⟨he3a,he3b,Zo he3x ?_⟩
 conv=>whnf
 refine .inl ⟨rfl,?_⟩
 conv=>whnf
 refine Zk h (fun markInt64S2 hb7 h=>?_)
 conv=>whnf
 refine ⟨he3a,he3b,Zo he3x ?_⟩
 conv=>whnf
 refine .inl ⟨rfl,?_⟩
 conv=>whnf
 refine Zk h (fun markInt64S3 hb8 h=>?_)
 conv=>whnf
 cases h
 exact ⟨⟨rfl,rfl⟩,hI1 _ rfl⟩
 conv=>whnf
 cases h
 obtain rfl:=hR1 _ rfl
 exact hK
theorem w19 (q0:Zc Tryz.prog 52 c16):Zc Tryz.prog 18 c19:=by
 refine Zg Zq (Ze q0 Zj) mixed {} (fn:=Tryz.f18) Tryz.func18 (by kernel_rfl) (by kernel_rfl) ?_
 rintro ⟨a0,left0,⟨⟩⟩ K ⟨r,h,hK⟩
 change ZbT a0 left0=some r at h
 unfold ZbT at h
 conv=>whnf
 refine Zx h (fun h=>?_) (fun h=>?_)
 conv=>whnf
 cases h
 exact hK
 conv=>whnf
 refine Zk h (fun szWire0 hb0 h=>?_)
 conv=>whnf
 refine Zx h (fun h=>?_) (fun h=>?_)
 conv=>whnf
 cases h
 exact hK
 conv=>whnf
 cases h
 exact hK
theorem w16 (q0:Zc Tryz.prog 100 c2):Zc Tryz.prog 52 c16:=by
 refine Zg Zq (Ze q0 Zj) mixed {} (fn:=Tryz.f52) Tryz.func52 (by kernel_rfl) (by kernel_rfl) ?_
 rintro ⟨a0,left0,⟨⟩⟩ K ⟨r,h,hK⟩
 change JE a0 left0=some r at h
 unfold JE at h
 conv=>whnf
 refine Zk h (fun szInt64S0 hb0 h=>?_)
 conv=>whnf
 refine Zx h (fun h=>?_) (fun h=>?_)
 conv=>whnf
 cases h
 exact hK
 conv=>whnf
 refine Zk h (fun szInt64S1 hb1 h=>?_)
 conv=>whnf
 refine Zx h (fun h=>?_) (fun h=>?_)
 conv=>whnf
 cases h
 exact hK
 conv=>whnf
 refine Zk h (fun szInt64S2 hb2 h=>?_)
 conv=>whnf
 refine Zx h (fun h=>?_) (fun h=>?_)
 conv=>whnf
 cases h
 exact hK
 conv=>whnf
 refine Zk h (fun szInt64S3 hb3 h=>?_)
 conv=>whnf
 refine Zx h (fun h=>?_) (fun h=>?_)
 conv=>whnf
 cases h
 exact hK
 conv=>whnf
 cases h
 exact hK
theorem w35 (q0:Zc Tryz.prog 87 c31) (q1:Zc Tryz.prog 88 c32) (q2:Zc Tryz.prog 89 c34):Zc Tryz.prog 40 c35:=by
 refine Zg YS (Ze q0 (Ze q1 (Ze q2 Zj))) mixed {} (fn:=Tryz.f40) Tryz.func40 (by kernel_rfl) (by kernel_rfl) ?_
 rintro ⟨a0,⟨⟩⟩ K ⟨r,h,hK⟩
 change Zct a0=some r at h
 unfold Zct at h
 conv=>whnf
 refine Zk h (fun toInstanceS0 hb0 h=>?_)
 conv=>whnf
 intro fp1
 conv=>whnf
 refine Zk h (fun toStringS0 hb2 h=>?_)
 conv=>whnf
 refine Zk h (fun toPortS0 hb3 h=>?_)
 conv=>whnf
 cases h
 exact hK
theorem w20:Zc Tryz.prog 225 c20:=by
 refine Zg Zq Zj mixed {} (fn:=Tryz.f225) Tryz.func225 (by kernel_rfl) (by kernel_rfl) ?_
 rintro ⟨a0,⟨⟩⟩ K ⟨r,h,hK⟩
 change Zd0 a0=some r at h
 unfold Zd0 at h
 conv=>whnf
 cases h
 exact hK
theorem w24 (q0:Zc Tryz.prog 268 c23):Zc Tryz.prog 251 c24:=by
 refine Zg YS (Ze q0 Zj) mixed {loops:=[(0,[.reg 4 (.dat (.int .i64)),.ent 0 (nat_lit 263) ZeB])]} (fn:=Tryz.f251) Tryz.func251 (by kernel_rfl) (by kernel_rfl) ?_
 rintro ⟨a0,⟨⟩⟩ K ⟨r,h,hK⟩
 change Za6 a0=some r at h
 unfold Za6 at h
 conv=>whnf
 refine QZ h (fun hp0 h=>?_)
 conv=>whnf
 refine QZ h (fun hp1 h=>?_)
 conv=>whnf
 refine QZ h (fun hp2 h=>?_)
 conv=>whnf
 refine QZ h (fun hp3 h=>?_)
 conv=>whnf
 intro fp4
 conv=>whnf
 refine Yk h ?_
 rintro I5 μ5 ⟨i0,l0,⟨⟩⟩ zs5 h hI5 hR5
 change ZcK a0 i0 l0=some zs5 at h
 unfold ZcK at h
 conv=>whnf
 intro fp6
 conv=>whnf
 refine Zx h (fun h=>?_) (fun h=>?_)
 conv=>whnf
 refine vAt h (fun x0 he7a he7b he7x h=>?_)
 conv=>whnf
 refine Zk h (fun toTable0 hb8 h=>?_)
 conv=>whnf
 refine vAt h (fun x1 he9a he9b he9x h=>?_)
 conv=>whnf
 refine ⟨he9a,he9b,Zo he9x ?_⟩
 conv=>whnf
 intro fp10
 conv=>whnf
 cases h
 exact ⟨⟨rfl,rfl⟩,hI5 _ rfl⟩
 conv=>whnf
 cases h
 obtain rfl:=hR5 _ rfl
 exact hK
theorem w37 (q0:Zc Tryz.prog 53 c36):Zc Tryz.prog 41 c37:=by
 refine Zg YS (Ze q0 Zj) mixed {loops:=[(0,[.reg 4 (.dat (.int .i64)),.ent 0 (nat_lit 64) Zhu])]} (fn:=Tryz.f41) Tryz.func41 (by kernel_rfl) (by kernel_rfl) ?_
 rintro ⟨a0,⟨⟩⟩ K ⟨r,h,hK⟩
 change Zc1 a0=some r at h
 unfold Zc1 at h
 conv=>whnf
 refine QZ h (fun hp0 h=>?_)
 conv=>whnf
 refine QZ h (fun hp1 h=>?_)
 conv=>whnf
 refine QZ h (fun hp2 h=>?_)
 conv=>whnf
 refine QZ h (fun hp3 h=>?_)
 conv=>whnf
 intro fp4
 conv=>whnf
 refine Yk h ?_
 rintro I5 μ5 ⟨i0,l0,⟨⟩⟩ zs5 h hI5 hR5
 change ZdK a0 i0 l0=some zs5 at h
 unfold ZdK at h
 conv=>whnf
 intro fp6
 conv=>whnf
 refine Zx h (fun h=>?_) (fun h=>?_)
 conv=>whnf
 refine vAt h (fun x0 he7a he7b he7x h=>?_)
 conv=>whnf
 refine Zk h (fun toWire0 hb8 h=>?_)
 conv=>whnf
 refine vAt h (fun x1 he9a he9b he9x h=>?_)
 conv=>whnf
 refine ⟨he9a,he9b,Zo he9x ?_⟩
 conv=>whnf
 intro fp10
 conv=>whnf
 cases h
 exact ⟨⟨rfl,rfl⟩,hI5 _ rfl⟩
 conv=>whnf
 cases h
 obtain rfl:=hR5 _ rfl
 exact hK
theorem ZzV:Zc Tryz.prog 201 c164:=by
 refine Zg Zq Zj mixed {} (fn:=Tryz.f201) Tryz.func201 (by kernel_rfl) (by kernel_rfl) ?_
 rintro ⟨s0,⟨⟩⟩ K ⟨r,h,hK⟩
 change YP s0=some r at h
 unfold YP at h
 conv=>whnf
 refine ⟨fun hd=>?_,?_⟩
 have h:=Zrl (T:=(some ([]:List ZU))) h (by simp [hd,ZA])
 conv=>whnf
 cases h
 exact hK
 conv=>whnf
 refine QZ h (fun hp0 h=>?_)
 conv=>whnf
 cases h
 exact hK
theorem ZyZ (q0:Zc Tryz.prog 286 Zyi):Zc Tryz.prog 275 Zx1:=by
 refine Zg Zq (Ze q0 Zj) mixed {} (fn:=Tryz.f275) Tryz.func275 (by kernel_rfl) (by kernel_rfl) ?_
 rintro ⟨s0,f0,⟨⟩⟩ K ⟨r,h,hK⟩
 change ZF s0 f0=some r at h
 unfold ZF at h
 conv=>whnf
 refine Zk h (fun c1_0 hb0 h=>?_)
 conv=>whnf
 cases h
 exact hK
theorem ZzN:Zc Tryz.prog 235 Zxd:=by
 refine Zg Zq Zj mixed {loops:=[(0,[.reg 13 (.dat (.int .i64))])],draws:=[(6,[0,0,3,7,0,0,48,112,255],.op 0 (.op 1 (.op 2 (.op 3 (.op 4 (.op 5 (.op 6 (.op 7 (.op 8 (.done))))))))))]} (fn:=Tryz.f235) Tryz.func235 (by kernel_rfl) (by kernel_rfl) ?_
 rintro ⟨s1_0,s2_0,⟨⟩⟩ K ⟨r,h,hK⟩
 change Yw s1_0 s2_0=some r at h
 unfold Yw at h
 conv=>whnf
 refine Z7 ?_
 refine Zx h (fun h=>?_) (fun h=>?_)
 conv=>whnf
 refine Yk h ?_
 rintro I0 μ0 ⟨v0,⟨⟩⟩ zs0 h hI0 hR0
 change YZ s1_0 s2_0 v0=some zs0 at h
 unfold YZ at h
 conv=>whnf
 refine Zx h (fun h=>?_) (fun h=>?_)
 conv=>whnf
 refine ⟨by kernel_rfl,?_⟩
 conv=>whnf
 refine vAt h (fun x0 he1a he1b he1x h=>?_)
 conv=>whnf
 refine vAt h (fun x1 he2a he2b he2x h=>?_)
 conv=>whnf
 refine ⟨trivial,?_⟩
 conv=>whnf
 refine Z7 ?_
 refine Zx h (fun h=>?_) (fun h=>?_)
 conv=>whnf
 cases h
 exact ⟨⟨rfl,rfl⟩,hI0 _ rfl⟩
 conv=>whnf
 cases h
 obtain rfl:=hR0 _ rfl
 exact hK
 conv=>whnf
 cases h
 obtain rfl:=hR0 _ rfl
 exact hK
 conv=>whnf
 cases h
 exact hK
theorem ZAk (q0:Zc Tryz.prog 266 c116):Zc Tryz.prog 265 c117:=by
 refine Zg Zq (Ze q0 Zj) mixed {loops:=[(0,[.reg 8 (.dat (.int .i64))])]} (fn:=Tryz.f265) Tryz.func265 (by kernel_rfl) (by kernel_rfl) ?_
 rintro ⟨s0,f0,⟨⟩⟩ K ⟨r,h,hK⟩
 change ZT s0 f0=some r at h
 unfold ZT at h
 conv=>whnf
 refine Yk h ?_
 rintro I0 μ0 ⟨v0,⟨⟩⟩ zs0 h hI0 hR0
 change ZX s0 f0 v0=some zs0 at h
 unfold ZX at h
 conv=>whnf
 refine Zx h (fun h=>?_) (fun h=>?_)
 conv=>whnf
 refine vAt h (fun x0 he1a he1b he1x h=>?_)
 conv=>whnf
 refine Zk h (fun c1_0 hb2 h=>?_)
 conv=>whnf
 refine YI h (fun h=>?_) (fun h=>?_)
 conv=>whnf
 cases h
 obtain rfl:=hR0 _ rfl
 exact hK
 conv=>whnf
 cases h
 exact ⟨⟨rfl,rfl⟩,hI0 _ rfl⟩
 conv=>whnf
 cases h
 obtain rfl:=hR0 _ rfl
 exact hK
theorem Zzd (q0:Zc Tryz.prog 216 ZwT):Zc Tryz.prog 215 ZwQ:=by
 refine Zg Zq (Ze q0 Zj) mixed {loops:=[(0,[.reg 8 (.dat (.int .i64))])]} (fn:=Tryz.f215) Tryz.func215 (by kernel_rfl) (by kernel_rfl) ?_
 rintro ⟨s0,f0,⟨⟩⟩ K ⟨r,h,hK⟩
 change Zy s0 f0=some r at h
 unfold Zy at h
 conv=>whnf
 refine Yk h ?_
 rintro I0 μ0 ⟨v0,⟨⟩⟩ zs0 h hI0 hR0
 change ZC s0 f0 v0=some zs0 at h
 unfold ZC at h
 conv=>whnf
 refine Zx h (fun h=>?_) (fun h=>?_)
 conv=>whnf
 refine vAt h (fun x0 he1a he1b he1x h=>?_)
 conv=>whnf
 refine Zk h (fun c1_0 hb2 h=>?_)
 conv=>whnf
 refine YI h (fun h=>?_) (fun h=>?_)
 conv=>whnf
 cases h
 obtain rfl:=hR0 _ rfl
 exact hK
 conv=>whnf
 cases h
 exact ⟨⟨rfl,rfl⟩,hI0 _ rfl⟩
 conv=>whnf
 cases h
 obtain rfl:=hR0 _ rfl
 exact hK
theorem w53 (q0:Zc Tryz.prog 162 c50) (q1:Zc Tryz.prog 163 c51) (q2:Zc Tryz.prog 164 c52):Zc Tryz.prog 113 c53:=by
 refine Zg Zq (Ze q0 (Ze q1 (Ze q2 Zj))) mixed {loops:=[(0,[.reg 5 (.own (.ol 9 (.flat (.str)))),.reg 6 (.dat (.int .i64))]),(2,[.reg 7 (.own (.ol 9 (.flat (.str)))),.reg 8 (.dat (.int .i64))]),(4,[.reg 10 (.dat (.int .i64)),.ent 6 (nat_lit 2) (.flat Zsv.ety)]),(6,[.reg 12 (.dat (.int .i64)),.ent 6 (nat_lit 2) (.flat Zsv.ety)]),(8,[.reg 13 (.dat (.int .i64))])]} (fn:=Tryz.f113) Tryz.func113 (by kernel_rfl) (by kernel_rfl) ?_
 rintro ⟨a0,a1,⟨⟩⟩ K ⟨r,h,hK⟩
 change Zcp a0 a1=some r at h
 unfold Zcp at h
 conv=>whnf
 refine Zk h (fun IsLibrary0 hb0 h=>?_)
 conv=>whnf
 refine ZeV ?_
 refine YI h (fun h=>?_) (fun h=>?_)
 conv=>whnf
 refine Zld h (fun h=>?_) (fun h=>?_)
 conv=>whnf
 cases h
 exact hK
 conv=>whnf
 refine Zld h (fun h=>?_) (fun h=>?_)
 conv=>whnf
 cases h
 exact hK
 conv=>whnf
 refine Zld h (fun h=>?_) (fun h=>?_)
 conv=>whnf
 cases h
 exact hK
 conv=>whnf
 refine Zk h (fun l05Parts0 hb1 h=>?_)
 conv=>whnf
 refine Z7 ?_
 refine YI h (fun h=>?_) (fun h=>?_)
 conv=>whnf
 refine Yk h ?_
 rintro I2 μ2 ⟨v0,v1,⟨⟩⟩ zs2 h hI2 hR2
 change JL a1 v0 v1=some zs2 at h
 unfold JL at h
 conv=>whnf
 refine Zx h (fun h=>?_) (fun h=>?_)
 conv=>whnf
 refine vAt h (fun x0 he3a he3b he3x h=>?_)
 conv=>whnf
 refine QZ h (fun hp4 h=>?_)
 conv=>whnf
 cases h
 exact ⟨⟨rfl,rfl⟩,hI2 _ rfl⟩
 conv=>whnf
 refine Yk h ?_
 rintro I5 μ5 ⟨v2,v3,⟨⟩⟩ zs5 h hI5 hR5
 change JU a1 v0 v2 v3=some zs5 at h
 unfold JU at h
 conv=>whnf
 refine Zx h (fun h=>?_) (fun h=>?_)
 conv=>whnf
 refine vAt h (fun x0 he6a he6b he6x h=>?_)
 conv=>whnf
 refine QZ h (fun hp7 h=>?_)
 conv=>whnf
 cases h
 exact ⟨⟨rfl,rfl⟩,hI5 _ rfl⟩
 conv=>whnf
 refine Zk h (fun l05Names0 hb8 h=>?_)
 conv=>whnf
 refine ZeV ?_
 refine YI h (fun h=>?_) (fun h=>?_)
 conv=>whnf
 refine Zk h (fun l05Names1 hb9 h=>?_)
 conv=>whnf
 refine ZeV ?_
 refine YI h (fun h=>?_) (fun h=>?_)
 conv=>whnf
 refine Zk h (fun l05Names2 hb10 h=>?_)
 conv=>whnf
 refine Z7 ?_
 refine YI h (fun h=>?_) (fun h=>?_)
 conv=>whnf
 refine QZ h (fun hp11 h=>?_)
 conv=>whnf
 refine QZ h (fun hp12 h=>?_)
 conv=>whnf
 refine QZ h (fun hp13 h=>?_)
 conv=>whnf
 refine QZ h (fun hp14 h=>?_)
 conv=>whnf
 refine Yk h ?_
 rintro I15 μ15 ⟨v4,l0,⟨⟩⟩ zs15 h hI15 hR15
 change Qa a1 v4 l0=some zs15 at h
 unfold Qa at h
 conv=>whnf
 refine Zx h (fun h=>?_) (fun h=>?_)
 conv=>whnf
 refine vAt h (fun x0 he16a he16b he16x h=>?_)
 conv=>whnf
 refine vAt h (fun x1 he17a he17b he17x h=>?_)
 conv=>whnf
 refine vAt h (fun x2 he18a he18b he18x h=>?_)
 conv=>whnf
 refine ⟨by kernel_rfl,?_⟩
 conv=>whnf
 refine ⟨he18a,he18b,Zo he18x ?_⟩
 conv=>whnf
 refine ⟨he18a,he18b,Zo he18x ?_⟩
 conv=>whnf
 refine ⟨by kernel_rfl,?_⟩
 conv=>whnf
 refine ⟨by decide,?_⟩
 conv=>whnf
 refine ⟨he18a,he18b,Zo he18x ?_⟩
 conv=>whnf
 cases h
 exact ⟨⟨rfl,rfl⟩,hI15 _ rfl⟩
 conv=>whnf
 refine Yk h ?_
 rintro I19 μ19 ⟨v5,l1,⟨⟩⟩ zs19 h hI19 hR19
 change Qc a1 v5 l1=some zs19 at h
 unfold Qc at h
 conv=>whnf
 refine Zx h (fun h=>?_) (fun h=>?_)
 conv=>whnf
 refine vAt h (fun x0 he20a he20b he20x h=>?_)
 conv=>whnf
 refine Zx h (fun h=>?_) (fun h=>?_)
 conv=>whnf
 refine ⟨he20a,he20b,Zo he20x ?_⟩
 conv=>whnf
 refine vAt h (fun x1 he21a he21b he21x h=>?_)
 conv=>whnf
 refine ⟨by kernel_rfl,?_⟩
 conv=>whnf
 refine ⟨he21a,he21b,Zo he21x ?_⟩
 conv=>whnf
 refine ⟨he21a,he21b,Zo he21x ?_⟩
 conv=>whnf
 refine ⟨by kernel_rfl,?_⟩
 conv=>whnf
 refine ⟨by decide,?_⟩
 conv=>whnf
 refine ⟨he21a,he21b,Zo he21x ?_⟩
 conv=>whnf
 cases h
 exact ⟨⟨rfl,rfl⟩,hI19 _ rfl⟩
 conv=>whnf
 cases h
 exact ⟨⟨rfl,rfl⟩,hI19 _ rfl⟩
 conv=>whnf
 refine Yk h ?_
 rintro I22 μ22 ⟨v6,⟨⟩⟩ zs22 h hI22 hR22
 change JQ l1 v6=some zs22 at h
 unfold JQ at h
 conv=>whnf
 refine Zx h (fun h=>?_) (fun h=>?_)
 conv=>whnf
 refine vAt h (fun x0 he23a he23b he23x h=>?_)
 conv=>whnf
 refine ⟨by kernel_rfl,?_⟩
 conv=>whnf
 refine ⟨he23a,he23b,Zo he23x ?_⟩
 conv=>whnf
 refine Z7 ?_
 refine Zx h (fun h=>?_) (fun h=>?_)
 conv=>whnf
 cases h
 exact ⟨⟨rfl,rfl⟩,hI22 _ rfl⟩
 conv=>whnf
 cases h
 obtain rfl:=hR22 _ rfl
 obtain rfl:=hR19 _ rfl
 obtain rfl:=hR15 _ rfl
 obtain rfl:=hR5 _ rfl
 obtain rfl:=hR2 _ rfl
 exact hK
 conv=>whnf
 cases h
 obtain rfl:=hR22 _ rfl
 obtain rfl:=hR19 _ rfl
 obtain rfl:=hR15 _ rfl
 obtain rfl:=hR5 _ rfl
 obtain rfl:=hR2 _ rfl
 exact hK
 conv=>whnf
 cases h
 obtain rfl:=hR5 _ rfl
 obtain rfl:=hR2 _ rfl
 exact hK
 conv=>whnf
 cases h
 obtain rfl:=hR5 _ rfl
 obtain rfl:=hR2 _ rfl
 exact hK
 conv=>whnf
 cases h
 obtain rfl:=hR5 _ rfl
 obtain rfl:=hR2 _ rfl
 exact hK
 conv=>whnf
 cases h
 exact hK
 conv=>whnf
 cases h
 exact hK
theorem w41:Zc Tryz.prog 121 c41:=by
 refine Zg Zq Zj mixed {} (fn:=Tryz.f121) Tryz.func121 (by kernel_rfl) (by kernel_rfl) ?_
 rintro ⟨n0,low0,high0,⟨⟩⟩ K ⟨r,h,hK⟩
 change Yc n0 low0 high0=some r at h
 unfold Yc at h
 conv=>whnf
 refine Zx h (fun h=>?_) (fun h=>?_)
 conv=>whnf
 cases h
 exact hK
 conv=>whnf
 cases h
 exact hK
theorem w69:Zc Tryz.prog 144 c69:=by
 refine Zg Zq Zj mixed {} (fn:=Tryz.f144) Tryz.func144 (by kernel_rfl) (by kernel_rfl) ?_
 rintro ⟨list0,⟨⟩⟩ K ⟨r,h,hK⟩
 change Xa list0=some r at h
 unfold Xa at h
 conv=>whnf
 refine QZ h (fun hp0 h=>?_)
 conv=>whnf
 cases h
 exact hK
theorem w46 (q0:Zc Tryz.prog 270 c45):Zc Tryz.prog 253 c46:=by
 refine Zg Zq (Ze q0 Zj) mixed {loops:=[(0,[.reg 5 (.dat (.int .i64))])]} (fn:=Tryz.f253) Tryz.func253 (by kernel_rfl) (by kernel_rfl) ?_
 rintro ⟨list0,positive0,⟨⟩⟩ K ⟨r,h,hK⟩
 change Yx list0 positive0=some r at h
 unfold Yx at h
 conv=>whnf
 refine Z7 ?_
 refine Zx h (fun h=>?_) (fun h=>?_)
 conv=>whnf
 refine Yk h ?_
 rintro I0 μ0 ⟨i0,⟨⟩⟩ zs0 h hI0 hR0
 change VX list0 positive0 i0=some zs0 at h
 unfold VX at h
 conv=>whnf
 refine Zx h (fun h=>?_) (fun h=>?_)
 conv=>whnf
 refine vAt h (fun x0 he1a he1b he1x h=>?_)
 conv=>whnf
 refine Zk h (fun TableBounds0 hb2 h=>?_)
 conv=>whnf
 refine ZeV ?_
 refine Zx h (fun h=>?_) (fun h=>?_)
 conv=>whnf
 refine YI h (fun h=>?_) (fun h=>?_)
 conv=>whnf
 refine Zx h (fun h=>?_) (fun h=>?_)
 conv=>whnf
 cases h
 obtain rfl:=hR0 _ rfl
 exact hK
 conv=>whnf
 cases h
 exact ⟨⟨rfl,rfl⟩,hI0 _ rfl⟩
 conv=>whnf
 cases h
 exact ⟨⟨rfl,rfl⟩,hI0 _ rfl⟩
 conv=>whnf
 cases h
 obtain rfl:=hR0 _ rfl
 exact hK
 conv=>whnf
 cases h
 obtain rfl:=hR0 _ rfl
 exact hK
 conv=>whnf
 cases h
 exact hK
theorem w79:Zc Tryz.prog 145 c79:=by
 refine Zg Zq Zj mixed {} (fn:=Tryz.f145) Tryz.func145 (by kernel_rfl) (by kernel_rfl) ?_
 rintro ⟨sinks0,load0,⟨⟩⟩ K ⟨r,h,hK⟩
 change ZaB sinks0 load0=some r at h
 unfold ZaB at h
 conv=>whnf
 refine QZ h (fun hp0 h=>?_)
 conv=>whnf
 refine QZ h (fun hp1 h=>?_)
 conv=>whnf
 refine QZ h (fun hp2 h=>?_)
 conv=>whnf
 refine QZ h (fun hp3 h=>?_)
 conv=>whnf
 cases h
 exact hK
end Go.Proofs.YtehkanadahncgaaGreatDoor
