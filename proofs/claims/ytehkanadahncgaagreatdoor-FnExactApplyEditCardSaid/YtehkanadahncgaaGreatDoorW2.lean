/-
  The functions keep their contracts, if what they call does. Printed by program.
-/
import Derived.Test.YtehkanadahncgaaGreatDoorM
import Derived.KernelRfl
namespace Go.Proofs.YtehkanadahncgaaGreatDoor
open Go Go.Sx
set_option maxRecDepth 100000
set_option maxHeartbeats 3200000
set_option linter.unusedVariables false
set_option linter.unusedSimpArgs false
theorem ZBN (q1:Zc Tryz.prog 31 c156) (q0:Zc Tryz.prog 54 c175):Zc Tryz.prog 21 ZwU:=by
 refine Zg YS (Ze q1 (Ze q0 Zj)) mixed {} (fn:=Tryz.f21) Tryz.func21 (by kernel_rfl) (by kernel_rfl) ?_
 rintro ⟨b0,e0,⟨⟩⟩ K ⟨r,h,hK⟩
 change Zbp b0 e0=some r at h
 unfold Zbp at h
 conv=>whnf
 refine Zk h (fun EditCode0 hb0 h=>?_)
 conv=>whnf
 refine Z7 ?_
 refine Zx h (fun h=>?_) (fun h=>?_)
 conv=>whnf
 refine Zk h (fun apply0 hb1 h=>?_)
 conv=>whnf
 intro fp2
 conv=>whnf
 intro fp3
 conv=>whnf
 intro fp4
 conv=>whnf
 cases h
 exact hK
 conv=>whnf
 cases h
 exact hK
theorem ZAP:Zc Tryz.prog 266 c116:=by
 refine Zg Zq Zj mixed {} (fn:=Tryz.f266) Tryz.func266 (by kernel_rfl) (by kernel_rfl) ?_
 rintro ⟨a0,a1,⟨⟩⟩ K ⟨r,h,hK⟩
 change Zaa a0 a1=some r at h
 unfold Zaa at h
 conv=>whnf
 cases h
 exact hK
theorem Zz8 (q4:Zc Tryz.prog 261 c92) (q3:Zc Tryz.prog 262 c105) (q2:Zc Tryz.prog 263 ZxB) (q0:Zc Tryz.prog 264 ZxS) (q1:Zc Tryz.prog 248 c109) (q5:Zc Tryz.prog 137 c85):Zc Tryz.prog 245 Zyd:=by
 refine Zg Zq (Ze q4 (Ze q3 (Ze q2 (Ze q0 (Ze q1 (Ze q5 Zj)))))) mixed {draws:=[(2,[0,1,3,7,15,31,63,127,255,511,1023,2047,4095,8191,16383,32767,65535,32767,163839,524287,1048575,2097151,4194303,8388607,16777215,33554431,67108863,134217727,134217727,402653183,1073741823,2147483647,4294967295,8589934591,17179869183,8589934591,42949672959,137438953471,274877906943,549755813887],.op 0 (.op 1 (.op 2 (.op 3 (.op 4 (.op 5 (.op 6 (.op 7 (.op 8 (.op 9 (.op 10 (.op 11 (.alt 12 (.op 13 (.op 14 (.op 15 (.op 16 (.op 17 (.alt 18 (.op 19 (.op 20 (.op 21 (.op 22 (.op 23 (.op 24 (.op 25 (.op 26 (.op 27 (.op 28 (.op 29 (.alt 30 (.op 31 (.op 32 (.op 33 (.op 34 (.op 35 (.op 36 (.op 37 (.op 38 (.op 39 (.done)))))))))) (.done))))))))))))) (.done))))))) (.done)))))))))))))),(3,[0,1,3,7,15,31,63,127,255,511,1023,2047,4095,2047,10239,32767,65535,131071,262143,262143,786431,2097151,4194303,8388607],.op 0 (.op 1 (.alt 2 (.op 3 (.op 4 (.op 5 (.op 6 (.alt 7 (.op 8 (.op 9 (.op 10 (.op 11 (.op 12 (.op 13 (.alt 14 (.op 15 (.op 16 (.op 17 (.op 18 (.op 19 (.op 20 (.alt 21 (.op 22 (.op 23 (.done))) (.done)))))))) (.done)))))))) (.done)))))) (.done))))]} (fn:=Tryz.f245) Tryz.func245 (by kernel_rfl) (by kernel_rfl) ?_
 rintro ⟨a0,a1,⟨⟩⟩ K ⟨r,h,hK⟩
 change ZaI a0 a1=some r at h
 unfold ZaI at h
 conv=>whnf
 refine Zk h (fun isCheck0 hb0 h=>?_)
 conv=>whnf
 refine YI h (fun h=>?_) (fun h=>?_)
 conv=>whnf
 refine ⟨by kernel_rfl,?_⟩
 conv=>whnf
 refine Zx h (fun h=>?_) (fun h=>?_)
 conv=>whnf
 refine Zx h (fun h=>?_) (fun h=>?_)
 conv=>whnf
 refine Zk h (fun areTables0 hb1 h=>?_)
 conv=>whnf
 refine YI h (fun h=>?_) (fun h=>?_)
 conv=>whnf
 refine Zk h (fun clock0 hb2 h=>?_)
 conv=>whnf
 refine Zx h (fun h=>?_) (fun h=>?_)
 conv=>whnf
 refine Zx h (fun h=>?_) (fun h=>?_)
 conv=>whnf
 refine Zk h (fun isInput0 hb3 h=>?_)
 conv=>whnf
 refine YI h (fun h=>?_) (fun h=>?_)
 conv=>whnf
 refine ⟨trivial,?_⟩
 conv=>whnf
 cases h
 exact hK
 conv=>whnf
 refine ⟨trivial,?_⟩
 conv=>whnf
 cases h
 exact hK
 conv=>whnf
 refine ⟨trivial,?_⟩
 conv=>whnf
 cases h
 exact hK
 conv=>whnf
 refine ⟨trivial,?_⟩
 conv=>whnf
 cases h
 exact hK
 conv=>whnf
 refine ⟨trivial,?_⟩
 conv=>whnf
 cases h
 exact hK
 conv=>whnf
 refine ⟨trivial,?_⟩
 conv=>whnf
 cases h
 exact hK
 conv=>whnf
 refine ⟨trivial,?_⟩
 conv=>whnf
 cases h
 exact hK
 conv=>whnf
 refine ⟨by kernel_rfl,?_⟩
 conv=>whnf
 refine Zk h (fun areTables0 hb4 h=>?_)
 conv=>whnf
 refine ZeV ?_
 refine YI h (fun h=>?_) (fun h=>?_)
 conv=>whnf
 refine Zk h (fun areTables1 hb5 h=>?_)
 conv=>whnf
 refine ZeV ?_
 refine YI h (fun h=>?_) (fun h=>?_)
 conv=>whnf
 refine Zk h (fun output0 hb6 h=>?_)
 conv=>whnf
 refine ZeV ?_
 refine Zx h (fun h=>?_) (fun h=>?_)
 conv=>whnf
 refine Zk h (fun isInput0 hb7 h=>?_)
 conv=>whnf
 refine ⟨trivial,?_⟩
 conv=>whnf
 refine Z7 ?_
 refine YI h (fun h=>?_) (fun h=>?_)
 conv=>whnf
 refine Zx h (fun h=>?_) (fun h=>?_)
 conv=>whnf
 refine vAt h (fun x0 he8a he8b he8x h=>?_)
 conv=>whnf
 refine Z7 ?_
 refine YI h (fun h=>?_) (fun h=>?_)
 conv=>whnf
 cases h
 exact hK
 conv=>whnf
 refine Zk h (fun within0 hb9 h=>?_)
 conv=>whnf
 cases h
 exact hK
 conv=>whnf
 refine Zx h (fun h=>?_) (fun h=>?_)
 conv=>whnf
 refine Zx h (fun h=>?_) (fun h=>?_)
 conv=>whnf
 refine vAt h (fun x0 he10a he10b he10x h=>?_)
 conv=>whnf
 refine YI h (fun h=>?_) (fun h=>?_)
 conv=>whnf
 cases h
 exact hK
 conv=>whnf
 cases h
 exact hK
 conv=>whnf
 cases h
 exact hK
 conv=>whnf
 refine Zx h (fun h=>?_) (fun h=>?_)
 conv=>whnf
 refine vAt h (fun x0 he11a he11b he11x h=>?_)
 conv=>whnf
 refine YI h (fun h=>?_) (fun h=>?_)
 conv=>whnf
 cases h
 exact hK
 conv=>whnf
 cases h
 exact hK
 conv=>whnf
 cases h
 exact hK
 conv=>whnf
 cases h
 exact hK
 conv=>whnf
 refine ⟨trivial,?_⟩
 conv=>whnf
 cases h
 exact hK
 conv=>whnf
 refine ⟨trivial,?_⟩
 conv=>whnf
 cases h
 exact hK
 conv=>whnf
 refine ⟨trivial,?_⟩
 conv=>whnf
 cases h
 exact hK
theorem ZAg:Zc Tryz.prog 70 Zr6:=by
 refine Zg Zq Zj mixed {loops:=[(0,[.reg 3 (.own (.ol 115 (.flat (Zmh)))),.reg 13 (.dat (.int .i64))]),(2,[.reg 3 (.own (.ol 115 (.flat (Zmh)))),.reg 21 (.dat (.int .i64))]),(4,[.reg 3 (.own (.ol 115 (.flat (Zmh)))),.reg 44 (.dat (.int .i64))])]} (fn:=Tryz.f70) Tryz.func70 (by kernel_rfl) (by kernel_rfl) ?_
 rintro ⟨d0,⟨⟩⟩ K ⟨r,h,hK⟩
 change Yn d0=some r at h
 unfold Yn at h
 conv=>whnf
 refine Yk h ?_
 rintro I0 μ0 ⟨list0,v0,⟨⟩⟩ zs0 h hI0 hR0
 change Qq d0 list0 v0=some zs0 at h
 unfold Qq at h
 conv=>whnf
 refine Zx h (fun h=>?_) (fun h=>?_)
 conv=>whnf
 refine vAt h (fun x0 he1a he1b he1x h=>?_)
 conv=>whnf
 refine Yk h ?_
 rintro I2 μ2 ⟨list1,v1,⟨⟩⟩ zs2 h hI2 hR2
 change Qk v0 x0 list1 v1=some zs2 at h
 unfold Qk at h
 conv=>whnf
 refine Zx h (fun h=>?_) (fun h=>?_)
 conv=>whnf
 refine vAt h (fun x1 he3a he3b he3x h=>?_)
 conv=>whnf
 refine QZ h (fun hp4 h=>?_)
 conv=>whnf
 cases h
 exact ⟨⟨rfl,rfl⟩,hI2 _ rfl⟩
 conv=>whnf
 cases h
 obtain rfl:=hR2 _ rfl
 exact ⟨⟨rfl,rfl⟩,hI0 _ rfl⟩
 conv=>whnf
 refine Yk h ?_
 rintro I5 μ5 ⟨list1,v1,⟨⟩⟩ zs5 h hI5 hR5
 change Qm d0 list1 v1=some zs5 at h
 unfold Qm at h
 conv=>whnf
 refine Zx h (fun h=>?_) (fun h=>?_)
 conv=>whnf
 refine vAt h (fun x0 he6a he6b he6x h=>?_)
 conv=>whnf
 refine QZ h (fun hp7 h=>?_)
 conv=>whnf
 cases h
 exact ⟨⟨rfl,rfl⟩,hI5 _ rfl⟩
 conv=>whnf
 cases h
 obtain rfl:=hR5 _ rfl
 obtain rfl:=hR0 _ rfl
 exact hK
theorem Zy6:Zc Tryz.prog 216 ZwT:=by
 refine Zg Zq Zj mixed {} (fn:=Tryz.f216) Tryz.func216 (by kernel_rfl) (by kernel_rfl) ?_
 rintro ⟨x0,a0,⟨⟩⟩ K ⟨r,h,hK⟩
 change VA x0 a0=some r at h
 unfold VA at h
 conv=>whnf
 cases h
 exact hK
theorem ZB9 (q1:Zc Tryz.prog 287 c99) (q0:Zc Tryz.prog 139 c97):Zc Tryz.prog 277 Zxw:=by
 refine Zg Zq (Ze q1 (Ze q0 Zj)) mixed {} (fn:=Tryz.f277) Tryz.func277 (by kernel_rfl) (by kernel_rfl) ?_
 rintro ⟨t0,⟨⟩⟩ K ⟨r,h,hK⟩
 change Zdb t0=some r at h
 unfold Zdb at h
 conv=>whnf
 refine Zk h (fun isAxis0 hb0 h=>?_)
 conv=>whnf
 refine YI h (fun h=>?_) (fun h=>?_)
 conv=>whnf
 refine Zk h (fun isAxis1 hb1 h=>?_)
 conv=>whnf
 refine YI h (fun h=>?_) (fun h=>?_)
 conv=>whnf
 refine Zx h (fun h=>?_) (fun h=>?_)
 conv=>whnf
 refine Zk h (fun areWithin0 hb2 h=>?_)
 conv=>whnf
 cases h
 exact hK
 conv=>whnf
 cases h
 exact hK
 conv=>whnf
 cases h
 exact hK
 conv=>whnf
 cases h
 exact hK
theorem ZzU (q0:Zc Tryz.prog 137 c85):Zc Tryz.prog 138 Zx2:=by
 refine Zg Zq (Ze q0 Zj) mixed {loops:=[(0,[.reg 8 (.dat (.int .i64))])]} (fn:=Tryz.f138) Tryz.func138 (by kernel_rfl) (by kernel_rfl) ?_
 rintro ⟨w0,⟨⟩⟩ K ⟨r,h,hK⟩
 change Zad w0=some r at h
 unfold Zad at h
 conv=>whnf
 refine Yk h ?_
 rintro I0 μ0 ⟨v0,⟨⟩⟩ zs0 h hI0 hR0
 change Q7 w0 v0=some zs0 at h
 unfold Q7 at h
 conv=>whnf
 refine Zx h (fun h=>?_) (fun h=>?_)
 conv=>whnf
 refine vAt h (fun x0 he1a he1b he1x h=>?_)
 conv=>whnf
 refine Zx h (fun h=>?_) (fun h=>?_)
 conv=>whnf
 refine ZeV ?_
 refine Zx h (fun h=>?_) (fun h=>?_)
 conv=>whnf
 refine vAt h (fun x1 he2a he2b he2x h=>?_)
 conv=>whnf
 refine ZeV ?_
 refine Zx h (fun h=>?_) (fun h=>?_)
 conv=>whnf
 refine Zx h (fun h=>?_) (fun h=>?_)
 conv=>whnf
 refine Zk h (fun within0 hb3 h=>?_)
 conv=>whnf
 refine Z7 ?_
 refine YI h (fun h=>?_) (fun h=>?_)
 conv=>whnf
 cases h
 exact ⟨⟨rfl,rfl⟩,hI0 _ rfl⟩
 conv=>whnf
 cases h
 obtain rfl:=hR0 _ rfl
 exact hK
 conv=>whnf
 cases h
 exact ⟨⟨rfl,rfl⟩,hI0 _ rfl⟩
 conv=>whnf
 cases h
 obtain rfl:=hR0 _ rfl
 exact hK
 conv=>whnf
 cases h
 obtain rfl:=hR0 _ rfl
 exact hK
 conv=>whnf
 refine Zx h (fun h=>?_) (fun h=>?_)
 conv=>whnf
 refine Zk h (fun within0 hb4 h=>?_)
 conv=>whnf
 refine Z7 ?_
 refine YI h (fun h=>?_) (fun h=>?_)
 conv=>whnf
 cases h
 exact ⟨⟨rfl,rfl⟩,hI0 _ rfl⟩
 conv=>whnf
 cases h
 obtain rfl:=hR0 _ rfl
 exact hK
 conv=>whnf
 cases h
 exact ⟨⟨rfl,rfl⟩,hI0 _ rfl⟩
 conv=>whnf
 cases h
 obtain rfl:=hR0 _ rfl
 exact hK
theorem ZBn (q0:Zc Tryz.prog 55 c193):Zc Tryz.prog 22 c196:=by
 refine Zg Zq (Ze q0 Zj) mixed {} (fn:=Tryz.f22) Tryz.func22 (by kernel_rfl) (by kernel_rfl) ?_
 rintro ⟨a0,b0,⟨⟩⟩ K ⟨r,h,hK⟩
 change Zd7 a0 b0=some r at h
 unfold Zd7 at h
 conv=>whnf
 refine Z7 ?_
 refine Zx h (fun h=>?_) (fun h=>?_)
 conv=>whnf
 refine Z7 ?_
 refine Zx h (fun h=>?_) (fun h=>?_)
 conv=>whnf
 refine Z7 ?_
 refine Zx h (fun h=>?_) (fun h=>?_)
 conv=>whnf
 refine Z7 ?_
 refine Zx h (fun h=>?_) (fun h=>?_)
 conv=>whnf
 refine Z7 ?_
 refine Zx h (fun h=>?_) (fun h=>?_)
 conv=>whnf
 refine Z7 ?_
 refine Zx h (fun h=>?_) (fun h=>?_)
 conv=>whnf
 refine Zk h (fun eqWire0 hb0 h=>?_)
 conv=>whnf
 refine Z7 ?_
 refine YI h (fun h=>?_) (fun h=>?_)
 conv=>whnf
 cases h
 exact hK
 conv=>whnf
 cases h
 exact hK
 conv=>whnf
 cases h
 exact hK
 conv=>whnf
 cases h
 exact hK
 conv=>whnf
 cases h
 exact hK
 conv=>whnf
 cases h
 exact hK
 conv=>whnf
 cases h
 exact hK
 conv=>whnf
 cases h
 exact hK
theorem ZCd (q0:Zc Tryz.prog 108 Zvo):Zc Tryz.prog 55 c193:=by
 refine Zg Zq (Ze q0 Zj) mixed {} (fn:=Tryz.f55) Tryz.func55 (by kernel_rfl) (by kernel_rfl) ?_
 rintro ⟨a0,b0,⟨⟩⟩ K ⟨r,h,hK⟩
 change ZbP a0 b0=some r at h
 unfold ZbP at h
 conv=>whnf
 refine Zk h (fun eqInt64S0 hb0 h=>?_)
 conv=>whnf
 refine Z7 ?_
 refine YI h (fun h=>?_) (fun h=>?_)
 conv=>whnf
 refine Zk h (fun eqInt64S1 hb1 h=>?_)
 conv=>whnf
 refine Z7 ?_
 refine YI h (fun h=>?_) (fun h=>?_)
 conv=>whnf
 refine Zk h (fun eqInt64S2 hb2 h=>?_)
 conv=>whnf
 refine Z7 ?_
 refine YI h (fun h=>?_) (fun h=>?_)
 conv=>whnf
 refine Zk h (fun eqInt64S3 hb3 h=>?_)
 conv=>whnf
 refine Z7 ?_
 refine YI h (fun h=>?_) (fun h=>?_)
 conv=>whnf
 cases h
 exact hK
 conv=>whnf
 cases h
 exact hK
 conv=>whnf
 cases h
 exact hK
 conv=>whnf
 cases h
 exact hK
 conv=>whnf
 cases h
 exact hK
theorem ZAj (q0:Zc Tryz.prog 55 c193):Zc Tryz.prog 45 c194:=by
 refine Zg Zq (Ze q0 Zj) mixed {loops:=[(0,[.reg 5 (.dat (.int .i64))])],draws:=[(6,[0,0,3,7,0,0,48,112,255,511],.op 0 (.op 1 (.op 2 (.op 3 (.op 4 (.op 5 (.op 6 (.op 7 (.alt 8 (.op 9 (.done)) (.done))))))))))]} (fn:=Tryz.f45) Tryz.func45 (by kernel_rfl) (by kernel_rfl) ?_
 rintro ⟨a0,b0,⟨⟩⟩ K ⟨r,h,hK⟩
 change Zc3 a0 b0=some r at h
 unfold Zc3 at h
 conv=>whnf
 refine Z7 ?_
 refine Zx h (fun h=>?_) (fun h=>?_)
 conv=>whnf
 refine Yk h ?_
 rintro I0 μ0 ⟨i0,⟨⟩⟩ zs0 h hI0 hR0
 change ZdL a0 b0 i0=some zs0 at h
 unfold ZdL at h
 conv=>whnf
 refine Zx h (fun h=>?_) (fun h=>?_)
 conv=>whnf
 refine ⟨by kernel_rfl,?_⟩
 conv=>whnf
 refine vAt h (fun x0 he1a he1b he1x h=>?_)
 conv=>whnf
 refine vAt h (fun x1 he2a he2b he2x h=>?_)
 conv=>whnf
 refine Zk h (fun eqWire0 hb3 h=>?_)
 conv=>whnf
 refine ⟨trivial,?_⟩
 conv=>whnf
 refine Z7 ?_
 refine YI h (fun h=>?_) (fun h=>?_)
 conv=>whnf
 cases h
 exact ⟨⟨rfl,rfl⟩,hI0 _ rfl⟩
 conv=>whnf
 cases h
 obtain rfl:=hR0 _ rfl
 exact hK
 conv=>whnf
 cases h
 obtain rfl:=hR0 _ rfl
 exact hK
 conv=>whnf
 cases h
 exact hK
theorem ZA1 (q1:Zc Tryz.prog 49 Zry) (q2:Zc Tryz.prog 160 c212) (q3:Zc Tryz.prog 161 Zxy) (q0:Zc Tryz.prog 51 c213):Zc Tryz.prog 109 ZxD:=by
 refine Zg Zq (Ze q1 (Ze q2 (Ze q3 (Ze q0 Zj)))) mixed {loops:=[(0,[.reg 1 (.dat (.int .i64)),.reg 5 (.dat (.int .i64))])],draws:=[(4,[0,0,3,7,15,0,32,127],.op 0 (.op 1 (.op 2 (.op 3 (.op 4 (.op 5 (.alt 6 (.op 7 (.done)) (.done))))))))]} (fn:=Tryz.f109) Tryz.func109 (by kernel_rfl) (by kernel_rfl) ?_
 rintro ⟨a0,a1,⟨⟩⟩ K ⟨r,h,hK⟩
 change Zbv a0 a1=some r at h
 unfold Zbv at h
 conv=>whnf
 refine Yk h ?_
 rintro I0 μ0 ⟨v0,v1,⟨⟩⟩ zs0 h hI0 hR0
 change QK a0 v0 v1=some zs0 at h
 unfold QK at h
 conv=>whnf
 refine Zx h (fun h=>?_) (fun h=>?_)
 conv=>whnf
 refine ⟨by kernel_rfl,?_⟩
 conv=>whnf
 refine vAt h (fun x0 he1a he1b he1x h=>?_)
 conv=>whnf
 refine Zk h (fun markText0 hb2 h=>?_)
 conv=>whnf
 refine ⟨trivial,?_⟩
 conv=>whnf
 refine Z7 ?_
 refine Zx h (fun h=>?_) (fun h=>?_)
 conv=>whnf
 refine ⟨he1a,he1b,Zo he1x ?_⟩
 conv=>whnf
 refine Z7 ?_
 refine Zx h (fun h=>?_) (fun h=>?_)
 conv=>whnf
 refine ⟨he1a,he1b,Zo he1x ?_⟩
 conv=>whnf
 refine Zk h (fun heldPinS0 hb3 h=>?_)
 conv=>whnf
 refine Zx h (fun h=>?_) (fun h=>?_)
 conv=>whnf
 cases h
 obtain rfl:=hR0 _ rfl
 exact hK
 conv=>whnf
 refine ⟨he1a,he1b,Zo he1x ?_⟩
 conv=>whnf
 refine Zk h (fun heldArcS0 hb4 h=>?_)
 conv=>whnf
 refine Zx h (fun h=>?_) (fun h=>?_)
 conv=>whnf
 cases h
 obtain rfl:=hR0 _ rfl
 exact hK
 conv=>whnf
 refine ⟨he1a,he1b,Zo he1x ?_⟩
 conv=>whnf
 refine Zk h (fun heldInt64S0 hb5 h=>?_)
 conv=>whnf
 refine Zx h (fun h=>?_) (fun h=>?_)
 conv=>whnf
 cases h
 obtain rfl:=hR0 _ rfl
 exact hK
 conv=>whnf
 refine ⟨he1a,he1b,Zo he1x ?_⟩
 conv=>whnf
 refine Z7 ?_
 refine Zx h (fun h=>?_) (fun h=>?_)
 conv=>whnf
 refine ⟨he1a,he1b,Zo he1x ?_⟩
 conv=>whnf
 refine Z7 ?_
 refine Zx h (fun h=>?_) (fun h=>?_)
 conv=>whnf
 cases h
 exact ⟨⟨rfl,rfl⟩,hI0 _ rfl⟩
 conv=>whnf
 cases h
 obtain rfl:=hR0 _ rfl
 exact hK
 conv=>whnf
 cases h
 obtain rfl:=hR0 _ rfl
 exact hK
 conv=>whnf
 cases h
 obtain rfl:=hR0 _ rfl
 exact hK
 conv=>whnf
 cases h
 obtain rfl:=hR0 _ rfl
 exact hK
 conv=>whnf
 cases h
 obtain rfl:=hR0 _ rfl
 exact hK
theorem ZAh (q0:Zc Tryz.prog 110 c218) (q1:Zc Tryz.prog 111 ZwO) (q2:Zc Tryz.prog 112 Zx4):Zc Tryz.prog 58 Zw4:=by
 refine Zg Zq (Ze q0 (Ze q1 (Ze q2 Zj))) mixed {} (fn:=Tryz.f58) Tryz.func58 (by kernel_rfl) (by kernel_rfl) ?_
 rintro ⟨a0,k0,⟨⟩⟩ K ⟨r,h,hK⟩
 change ZaM a0 k0=some r at h
 unfold ZaM at h
 conv=>whnf
 refine Zk h (fun heldInstanceS0 hb0 h=>?_)
 conv=>whnf
 refine Zx h (fun h=>?_) (fun h=>?_)
 conv=>whnf
 cases h
 exact hK
 conv=>whnf
 refine Zk h (fun heldStringS0 hb1 h=>?_)
 conv=>whnf
 refine Zx h (fun h=>?_) (fun h=>?_)
 conv=>whnf
 cases h
 exact hK
 conv=>whnf
 refine Zk h (fun heldPortS0 hb2 h=>?_)
 conv=>whnf
 refine Zx h (fun h=>?_) (fun h=>?_)
 conv=>whnf
 cases h
 exact hK
 conv=>whnf
 cases h
 exact hK
theorem ZzA (q1:Zc Tryz.prog 49 Zry) (q2:Zc Tryz.prog 154 c198) (q3:Zc Tryz.prog 155 c201) (q0:Zc Tryz.prog 50 Zu9):Zc Tryz.prog 96 Zx8:=by
 refine Zg YS (Ze q1 (Ze q2 (Ze q3 (Ze q0 Zj)))) mixed {loops:=[(0,[.reg 1 (.dat (.int .i64)),.reg 5 (.dat (.int .i64)),.ent 0 (nat_lit 169) (Dp.pair (Dp.flat Ty.str) (Dp.pair (Dp.flat (Ty.int IntKind.i64)) (Dp.pair (Dp.ol (218:Go.TypeId) (Dp.flat V9)) (Dp.pair (Dp.ol (235:Go.TypeId) ZrA) (Dp.pair (Dp.ol (2:Go.TypeId) (Dp.flat (Ty.int IntKind.i64))) (Dp.pair (Dp.flat (Ty.int IntKind.i64)) (Dp.pair (Dp.flat (Ty.int IntKind.i64)) (Dp.flat Ty.unit))))))))])]} (fn:=Tryz.f96) Tryz.func96 (by kernel_rfl) (by kernel_rfl) ?_
 rintro ⟨a0,k0,⟨⟩⟩ K ⟨r,h,hK⟩
 change Jg a0 k0=some r at h
 unfold Jg at h
 conv=>whnf
 intro fp0
 conv=>whnf
 refine Yk h ?_
 rintro I1 μ1 ⟨k1,i0,l0,⟨⟩⟩ zs1 h hI1 hR1
 change XH k1 i0 l0=some zs1 at h
 unfold XH at h
 conv=>whnf
 intro fp2
 conv=>whnf
 refine Zx h (fun h=>?_) (fun h=>?_)
 conv=>whnf
 refine Zk h (fun markText0 hb3 h=>?_)
 conv=>whnf
 refine vAt h (fun x0 he4a he4b he4x h=>?_)
 conv=>whnf
 refine ⟨he4a,he4b,Zo he4x ?_⟩
 conv=>whnf
 intro fp5
 conv=>whnf
 intro fp6
 conv=>whnf
 refine ⟨he4a,he4b,Zo he4x ?_⟩
 conv=>whnf
 refine .inl ⟨rfl,?_⟩
 conv=>whnf
 refine ⟨he4a,he4b,Zo he4x ?_⟩
 conv=>whnf
 refine .inl ⟨rfl,?_⟩
 conv=>whnf
 refine Zk h (fun markPinS0 hb7 h=>?_)
 conv=>whnf
 refine ⟨he4a,he4b,Zo he4x ?_⟩
 conv=>whnf
 refine .inl ⟨rfl,?_⟩
 conv=>whnf
 refine Zk h (fun markArcS0 hb8 h=>?_)
 conv=>whnf
 intro fp9
 conv=>whnf
 refine ⟨he4a,he4b,Zo he4x ?_⟩
 conv=>whnf
 refine .inl ⟨rfl,?_⟩
 conv=>whnf
 refine Zk h (fun markInt64S0 hb10 h=>?_)
 conv=>whnf
 refine ⟨he4a,he4b,Zo he4x ?_⟩
 conv=>whnf
 refine .inl ⟨rfl,?_⟩
 conv=>whnf
 refine ⟨he4a,he4b,Zo he4x ?_⟩
 conv=>whnf
 refine .inl ⟨rfl,?_⟩
 conv=>whnf
 cases h
 exact ⟨⟨rfl,rfl⟩,hI1 _ rfl⟩
 conv=>whnf
 cases h
 obtain rfl:=hR1 _ rfl
 exact hK
theorem ZBg (q0:Zc Tryz.prog 49 Zry):Zc Tryz.prog 154 c198:=by
 refine Zg YS (Ze q0 Zj) mixed {loops:=[(0,[.reg 1 (.dat (.int .i64)),.reg 5 (.dat (.int .i64)),.ent 0 (nat_lit 218) (.flat V9)])]} (fn:=Tryz.f154) Tryz.func154 (by kernel_rfl) (by kernel_rfl) ?_
 rintro ⟨a0,k0,⟨⟩⟩ K ⟨r,h,hK⟩
 change Zas a0 k0=some r at h
 unfold Zas at h
 conv=>whnf
 refine Yk h ?_
 rintro I0 μ0 ⟨k1,i0,l0,⟨⟩⟩ zs0 h hI0 hR0
 change Qd k1 i0 l0=some zs0 at h
 unfold Qd at h
 conv=>whnf
 refine Zx h (fun h=>?_) (fun h=>?_)
 conv=>whnf
 refine Zk h (fun markText0 hb1 h=>?_)
 conv=>whnf
 refine vAt h (fun x0 he2a he2b he2x h=>?_)
 conv=>whnf
 refine ⟨by kernel_rfl,?_⟩
 conv=>whnf
 refine ⟨by decide,?_⟩
 conv=>whnf
 refine ⟨he2a,he2b,Zo he2x ?_⟩
 conv=>whnf
 refine vAt h (fun x1 he3a he3b he3x h=>?_)
 conv=>whnf
 refine ⟨by kernel_rfl,?_⟩
 conv=>whnf
 refine ⟨by decide,?_⟩
 conv=>whnf
 refine ⟨he3a,he3b,Zo he3x ?_⟩
 conv=>whnf
 refine vAt h (fun x2 he4a he4b he4x h=>?_)
 conv=>whnf
 refine ⟨by kernel_rfl,?_⟩
 conv=>whnf
 refine ⟨by decide,?_⟩
 conv=>whnf
 refine ⟨he4a,he4b,Zo he4x ?_⟩
 conv=>whnf
 refine ⟨by decide,?_⟩
 conv=>whnf
 refine vAt h (fun x3 he5a he5b he5x h=>?_)
 conv=>whnf
 refine ⟨by kernel_rfl,?_⟩
 conv=>whnf
 refine ⟨by decide,?_⟩
 conv=>whnf
 refine ⟨he5a,he5b,Zo he5x ?_⟩
 conv=>whnf
 cases h
 exact ⟨⟨rfl,rfl⟩,hI0 _ rfl⟩
 conv=>whnf
 cases h
 obtain rfl:=hR0 _ rfl
 exact hK
theorem ZBi (q0:Zc Tryz.prog 50 Zu9):Zc Tryz.prog 204 Zym:=by
 refine Zg YS (Ze q0 Zj) mixed {loops:=[(0,[.reg 1 (.dat (.int .i64)),.reg 5 (.dat (.int .i64)),.ent 0 (nat_lit 263) (Dp.pair (Dp.ol (2:Go.TypeId) (Dp.flat (Ty.int IntKind.i64))) (Dp.pair (Dp.ol (2:Go.TypeId) (Dp.flat (Ty.int IntKind.i64))) (Dp.pair (Dp.ol (2:Go.TypeId) (Dp.flat (Ty.int IntKind.i64))) (Dp.flat Ty.unit))))])]} (fn:=Tryz.f204) Tryz.func204 (by kernel_rfl) (by kernel_rfl) ?_
 rintro ⟨a0,k0,⟨⟩⟩ K ⟨r,h,hK⟩
 change QF a0 k0=some r at h
 unfold QF at h
 conv=>whnf
 intro fp0
 conv=>whnf
 refine Yk h ?_
 rintro I1 μ1 ⟨k1,i0,l0,⟨⟩⟩ zs1 h hI1 hR1
 change Xr k1 i0 l0=some zs1 at h
 unfold Xr at h
 conv=>whnf
 intro fp2
 conv=>whnf
 refine Zx h (fun h=>?_) (fun h=>?_)
 conv=>whnf
 refine vAt h (fun x0 he3a he3b he3x h=>?_)
 conv=>whnf
 refine ⟨he3a,he3b,Zo he3x ?_⟩
 conv=>whnf
 intro fp4
 conv=>whnf
 refine Zk h (fun markInt64S0 hb5 h=>?_)
 conv=>whnf
 refine ⟨he3a,he3b,Zo he3x ?_⟩
 conv=>whnf
 refine .inl ⟨rfl,?_⟩
 conv=>whnf
 refine Zk h (fun markInt64S1 hb6 h=>?_)
 conv=>whnf
 refine ⟨he3a,he3b,Zo he3x ?_⟩
 conv=>whnf
 refine .inl ⟨rfl,?_⟩
 conv=>whnf
 refine Zk h (fun markInt64S2 hb7 h=>?_)
 conv=>whnf
 cases h
 exact ⟨⟨rfl,rfl⟩,hI1 _ rfl⟩
 conv=>whnf
 cases h
 obtain rfl:=hR1 _ rfl
 exact hK
theorem Zzy:Zc Tryz.prog 49 Zry:=by
 refine Zg Zq Zj mixed {loops:=[(0,[.reg 0 (.dat (.int .i64)),.reg 3 (.dat (.str))])]} (fn:=Tryz.f49) Tryz.func49 (by kernel_rfl) (by kernel_rfl) ?_
 rintro ⟨k0,⟨⟩⟩ K ⟨r,h,hK⟩
 change YN k0=some r at h
 unfold YN at h
 conv=>whnf
 refine Zx h (fun h=>?_) (fun h=>?_)
 conv=>whnf
 cases h
 exact hK
 conv=>whnf
 refine Yk h ?_
 rintro I0 μ0 ⟨k1,out0,⟨⟩⟩ zs0 h hI0 hR0
 change JA k1 out0=some zs0 at h
 unfold JA at h
 conv=>whnf
 refine Zx h (fun h=>?_) (fun h=>?_)
 conv=>whnf
 refine ⟨by decide,?_⟩
 conv=>whnf
 refine QZ h (fun hp1 h=>?_)
 conv=>whnf
 refine ⟨by decide,?_⟩
 conv=>whnf
 cases h
 exact ⟨⟨rfl,rfl⟩,hI0 _ rfl⟩
 conv=>whnf
 refine QZ h (fun hp2 h=>?_)
 conv=>whnf
 cases h
 obtain rfl:=hR0 _ rfl
 exact hK
theorem w7 (q1:Zc Tryz.prog 192 c1) (q2:Zc Tryz.prog 193 c6) (q0:Zc Tryz.prog 100 c2):Zc Tryz.prog 141 c7:=by
 refine Zg Zq (Ze q1 (Ze q2 (Ze q0 Zj))) mixed {} (fn:=Tryz.f141) Tryz.func141 (by kernel_rfl) (by kernel_rfl) ?_
 rintro ⟨a0,left0,⟨⟩⟩ K ⟨r,h,hK⟩
 change ZaD a0 left0=some r at h
 unfold ZaD at h
 conv=>whnf
 refine Zx h (fun h=>?_) (fun h=>?_)
 conv=>whnf
 cases h
 exact hK
 conv=>whnf
 refine Zk h (fun szPinS0 hb0 h=>?_)
 conv=>whnf
 refine Zx h (fun h=>?_) (fun h=>?_)
 conv=>whnf
 cases h
 exact hK
 conv=>whnf
 refine Zk h (fun szArcS0 hb1 h=>?_)
 conv=>whnf
 refine Zx h (fun h=>?_) (fun h=>?_)
 conv=>whnf
 cases h
 exact hK
 conv=>whnf
 refine Zk h (fun szInt64S0 hb2 h=>?_)
 conv=>whnf
 refine Zx h (fun h=>?_) (fun h=>?_)
 conv=>whnf
 cases h
 exact hK
 conv=>whnf
 cases h
 exact hK
theorem w10 (q0:Zc Tryz.prog 100 c2):Zc Tryz.prog 142 c10:=by
 refine Zg Zq (Ze q0 Zj) mixed {} (fn:=Tryz.f142) Tryz.func142 (by kernel_rfl) (by kernel_rfl) ?_
 rintro ⟨a0,left0,⟨⟩⟩ K ⟨r,h,hK⟩
 change X0 a0 left0=some r at h
 unfold X0 at h
 conv=>whnf
 refine Zx h (fun h=>?_) (fun h=>?_)
 conv=>whnf
 cases h
 exact hK
 conv=>whnf
 refine Zk h (fun szInt64S0 hb0 h=>?_)
 conv=>whnf
 refine Zx h (fun h=>?_) (fun h=>?_)
 conv=>whnf
 cases h
 exact hK
 conv=>whnf
 cases h
 exact hK
theorem w26 (q0:Zc Tryz.prog 226 c25):Zc Tryz.prog 195 c26:=by
 refine Zg YS (Ze q0 Zj) mixed {loops:=[(0,[.reg 4 (.dat (.int .i64)),.ent 0 (nat_lit 235) ZrA])]} (fn:=Tryz.f195) Tryz.func195 (by kernel_rfl) (by kernel_rfl) ?_
 rintro ⟨a0,⟨⟩⟩ K ⟨r,h,hK⟩
 change ZdZ a0=some r at h
 unfold ZdZ at h
 conv=>whnf
 refine QZ h (fun hp0 h=>?_)
 conv=>whnf
 refine QZ h (fun hp1 h=>?_)
 conv=>whnf
 refine QZ h (fun hp2 h=>?_)
 conv=>whnf
 refine QZ h (fun hp3 h=>?_)
 conv=>whnf
 intro fp4
 conv=>whnf
 refine Yk h ?_
 rintro I5 μ5 ⟨i0,l0,⟨⟩⟩ zs5 h hI5 hR5
 change Zef a0 i0 l0=some zs5 at h
 unfold Zef at h
 conv=>whnf
 intro fp6
 conv=>whnf
 refine Zx h (fun h=>?_) (fun h=>?_)
 conv=>whnf
 refine vAt h (fun x0 he7a he7b he7x h=>?_)
 conv=>whnf
 refine Zk h (fun toArc0 hb8 h=>?_)
 conv=>whnf
 intro fp9
 conv=>whnf
 intro fp10
 conv=>whnf
 refine vAt h (fun x1 he11a he11b he11x h=>?_)
 conv=>whnf
 refine ⟨he11a,he11b,Zo he11x ?_⟩
 conv=>whnf
 intro fp12
 conv=>whnf
 intro fp13
 conv=>whnf
 intro fp14
 conv=>whnf
 cases h
 exact ⟨⟨rfl,rfl⟩,hI5 _ rfl⟩
 conv=>whnf
 cases h
 obtain rfl:=hR5 _ rfl
 exact hK
theorem w38 (q0:Zc Tryz.prog 39 c29) (q1:Zc Tryz.prog 40 c35) (q2:Zc Tryz.prog 41 c37):Zc Tryz.prog 10 c38:=by
 refine Zg YS (Ze q0 (Ze q1 (Ze q2 Zj))) mixed {} (fn:=Tryz.f10) Tryz.func10 (by kernel_rfl) (by kernel_rfl) ?_
 rintro ⟨a0,⟨⟩⟩ K ⟨r,h,hK⟩
 change Zdh a0=some r at h
 unfold Zdh at h
 conv=>whnf
 refine Zk h (fun toLibrary0 hb0 h=>?_)
 conv=>whnf
 intro fp1
 conv=>whnf
 refine Zk h (fun toDesign0 hb2 h=>?_)
 conv=>whnf
 intro fp3
 conv=>whnf
 refine Zk h (fun toWireS0 hb4 h=>?_)
 conv=>whnf
 intro fp5
 conv=>whnf
 cases h
 exact hK
theorem w39 (q0:Zc Tryz.prog 53 c36):Zc Tryz.prog 20 c39:=by
 refine Zg Zq (Ze q0 Zj) mixed {} (fn:=Tryz.f20) Tryz.func20 (by kernel_rfl) (by kernel_rfl) ?_
 rintro ⟨a0,⟨⟩⟩ K ⟨r,h,hK⟩
 change Zes a0=some r at h
 unfold Zes at h
 conv=>whnf
 refine Zk h (fun toWire0 hb0 h=>?_)
 conv=>whnf
 cases h
 exact hK
theorem w34 (q0:Zc Tryz.prog 148 c33):Zc Tryz.prog 89 c34:=by
 refine Zg Zq (Ze q0 Zj) mixed {loops:=[(0,[.reg 4 (.dat (.int .i64)),.ent 0 (nat_lit 178) (.flat Zv4.ety)])]} (fn:=Tryz.f89) Tryz.func89 (by kernel_rfl) (by kernel_rfl) ?_
 rintro ⟨a0,⟨⟩⟩ K ⟨r,h,hK⟩
 change Zc7 a0=some r at h
 unfold Zc7 at h
 conv=>whnf
 refine QZ h (fun hp0 h=>?_)
 conv=>whnf
 refine QZ h (fun hp1 h=>?_)
 conv=>whnf
 refine QZ h (fun hp2 h=>?_)
 conv=>whnf
 refine QZ h (fun hp3 h=>?_)
 conv=>whnf
 refine Yk h ?_
 rintro I4 μ4 ⟨i0,l0,⟨⟩⟩ zs4 h hI4 hR4
 change ZdG a0 i0 l0=some zs4 at h
 unfold ZdG at h
 conv=>whnf
 refine Zx h (fun h=>?_) (fun h=>?_)
 conv=>whnf
 refine vAt h (fun x0 he5a he5b he5x h=>?_)
 conv=>whnf
 refine Zk h (fun toPort0 hb6 h=>?_)
 conv=>whnf
 refine vAt h (fun x1 he7a he7b he7x h=>?_)
 conv=>whnf
 refine ⟨by kernel_rfl,?_⟩
 conv=>whnf
 refine ⟨by decide,?_⟩
 conv=>whnf
 refine ⟨he7a,he7b,Zo he7x ?_⟩
 conv=>whnf
 cases h
 exact ⟨⟨rfl,rfl⟩,hI4 _ rfl⟩
 conv=>whnf
 cases h
 obtain rfl:=hR4 _ rfl
 exact hK
theorem w32:Zc Tryz.prog 88 c32:=by
 refine Zg Zq Zj mixed {loops:=[(0,[.reg 4 (.dat (.int .i64)),.ent 0 (nat_lit 9) (.flat Zvy.ety)])]} (fn:=Tryz.f88) Tryz.func88 (by kernel_rfl) (by kernel_rfl) ?_
 rintro ⟨a0,⟨⟩⟩ K ⟨r,h,hK⟩
 change Zbq a0=some r at h
 unfold Zbq at h
 conv=>whnf
 refine QZ h (fun hp0 h=>?_)
 conv=>whnf
 refine QZ h (fun hp1 h=>?_)
 conv=>whnf
 refine QZ h (fun hp2 h=>?_)
 conv=>whnf
 refine QZ h (fun hp3 h=>?_)
 conv=>whnf
 refine Yk h ?_
 rintro I4 μ4 ⟨i0,l0,⟨⟩⟩ zs4 h hI4 hR4
 change ZcA a0 i0 l0=some zs4 at h
 unfold ZcA at h
 conv=>whnf
 refine Zx h (fun h=>?_) (fun h=>?_)
 conv=>whnf
 refine vAt h (fun x0 he5a he5b he5x h=>?_)
 conv=>whnf
 refine vAt h (fun x1 he6a he6b he6x h=>?_)
 conv=>whnf
 refine ⟨by kernel_rfl,?_⟩
 conv=>whnf
 refine ⟨by decide,?_⟩
 conv=>whnf
 refine ⟨he6a,he6b,Zo he6x ?_⟩
 conv=>whnf
 cases h
 exact ⟨⟨rfl,rfl⟩,hI4 _ rfl⟩
 conv=>whnf
 cases h
 obtain rfl:=hR4 _ rfl
 exact hK
theorem w23 (q0:Zc Tryz.prog 101 c22):Zc Tryz.prog 268 c23:=by
 refine Zg Zq (Ze q0 Zj) mixed {} (fn:=Tryz.f268) Tryz.func268 (by kernel_rfl) (by kernel_rfl) ?_
 rintro ⟨a0,⟨⟩⟩ K ⟨r,h,hK⟩
 change ZbY a0=some r at h
 unfold ZbY at h
 conv=>whnf
 refine Zk h (fun toInt64S0 hb0 h=>?_)
 conv=>whnf
 refine Zk h (fun toInt64S1 hb1 h=>?_)
 conv=>whnf
 refine Zk h (fun toInt64S2 hb2 h=>?_)
 conv=>whnf
 cases h
 exact hK
theorem Zzv:Zc Tryz.prog 197 c159:=by
 refine Zg Zq Zj mixed {} (fn:=Tryz.f197) Tryz.func197 (by kernel_rfl) (by kernel_rfl) ?_
 rintro ⟨s0,⟨⟩⟩ K ⟨r,h,hK⟩
 change Y1 s0=some r at h
 unfold Y1 at h
 conv=>whnf
 refine ⟨fun hd=>?_,?_⟩
 have h:=Zrl (T:=(some ([]:List ZM))) h (by simp [hd,ZA])
 conv=>whnf
 cases h
 exact hK
 conv=>whnf
 refine QZ h (fun hp0 h=>?_)
 conv=>whnf
 cases h
 exact hK
theorem ZAt:Zc Tryz.prog 199 c162:=by
 refine Zg Zq Zj mixed {} (fn:=Tryz.f199) Tryz.func199 (by kernel_rfl) (by kernel_rfl) ?_
 rintro ⟨s0,⟨⟩⟩ K ⟨r,h,hK⟩
 change Yt s0=some r at h
 unfold Yt at h
 conv=>whnf
 refine ⟨fun hd=>?_,?_⟩
 have h:=Zrl (T:=(some ([]:List Zd))) h (by simp [hd,ZA])
 conv=>whnf
 cases h
 exact hK
 conv=>whnf
 refine QZ h (fun hp0 h=>?_)
 conv=>whnf
 cases h
 exact hK
theorem ZBp (q0:Zc Tryz.prog 265 c117):Zc Tryz.prog 246 ZxM:=by
 refine Zg Zq (Ze q0 Zj) mixed {} (fn:=Tryz.f246) Tryz.func246 (by kernel_rfl) (by kernel_rfl) ?_
 rintro ⟨s0,f0,⟨⟩⟩ K ⟨r,h,hK⟩
 change ZK s0 f0=some r at h
 unfold ZK at h
 conv=>whnf
 refine Zk h (fun c1_0 hb0 h=>?_)
 conv=>whnf
 cases h
 exact hK
theorem w89 (q0:Zc Tryz.prog 217 c88):Zc Tryz.prog 221 c89:=by
 refine Zg Zq (Ze q0 Zj) mixed {} (fn:=Tryz.f221) Tryz.func221 (by kernel_rfl) (by kernel_rfl) ?_
 rintro ⟨s0,v0,⟨⟩⟩ K ⟨r,h,hK⟩
 change YM s0 v0=some r at h
 unfold YM at h
 conv=>whnf
 refine Zk h (fun string0 hb0 h=>?_)
 conv=>whnf
 cases h
 exact hK
theorem w49 (q1:Zc Tryz.prog 229 c42) (q2:Zc Tryz.prog 124 c40) (q4:Zc Tryz.prog 121 c41) (q3:Zc Tryz.prog 230 c47) (q0:Zc Tryz.prog 231 c48):Zc Tryz.prog 206 c49:=by
 refine Zg Zq (Ze q1 (Ze q2 (Ze q4 (Ze q3 (Ze q0 Zj))))) mixed {loops:=[(0,[.reg 5 (.dat (.int .i64))]),(2,[.reg 7 (.dat (.int .i64))]),(5,[.reg 9 (.dat (.int .i64))])],draws:=[(13,[0,1,0,7,15,31,0,64,255,511,1023,2047,1023,8191,16383,32767,1023,66559,262143,524287,1048575,2097151,4194303,2097151,16777215,33554431,67108863,2097151,136314879,536870911,1073741823],.op 0 (.op 1 (.op 2 (.op 3 (.op 4 (.op 5 (.op 6 (.op 7 (.op 8 (.op 9 (.op 10 (.op 11 (.op 12 (.op 13 (.op 14 (.op 15 (.op 16 (.op 17 (.op 18 (.op 19 (.op 20 (.op 21 (.op 22 (.op 23 (.op 24 (.op 25 (.op 26 (.op 27 (.op 28 (.op 29 (.op 30 (.done)))))))))))))))))))))))))))))))),(25,[0,1,3,7,15,31,63,127,255,511,1023,2047,4095,511,8703,25087,57855,131071,262143,524287,1048575,2097151,4194303,8388607,16777215,33554431],.op 0 (.op 1 (.op 2 (.op 3 (.op 4 (.op 5 (.op 6 (.op 7 (.op 8 (.op 9 (.op 10 (.op 11 (.op 12 (.op 13 (.op 14 (.op 15 (.op 16 (.op 17 (.op 18 (.op 19 (.op 20 (.op 21 (.op 22 (.op 23 (.op 24 (.op 25 (.done)))))))))))))))))))))))))))]} (fn:=Tryz.f206) Tryz.func206 (by kernel_rfl) (by kernel_rfl) ?_
 rintro ⟨a0,⟨⟩⟩ K ⟨r,h,hK⟩
 change Zeh a0=some r at h
 unfold Zeh at h
 conv=>whnf
 refine Zk h (fun l03Pins0 hb0 h=>?_)
 conv=>whnf
 refine ZeV ?_
 refine YI h (fun h=>?_) (fun h=>?_)
 conv=>whnf
 refine Zk h (fun l03Name0 hb1 h=>?_)
 conv=>whnf
 refine ZeV ?_
 refine YI h (fun h=>?_) (fun h=>?_)
 conv=>whnf
 refine Zld h (fun h=>?_) (fun h=>?_)
 conv=>whnf
 cases h
 exact hK
 conv=>whnf
 refine Zk h (fun l01In0 hb2 h=>?_)
 conv=>whnf
 refine ZeV ?_
 refine YI h (fun h=>?_) (fun h=>?_)
 conv=>whnf
 refine Zk h (fun l01In1 hb3 h=>?_)
 conv=>whnf
 refine Z7 ?_
 refine YI h (fun h=>?_) (fun h=>?_)
 conv=>whnf
 refine Yk h ?_
 rintro I4 μ4 ⟨v0,⟨⟩⟩ zs4 h hI4 hR4
 change ZaH a0 l03Pins0 v0=some zs4 at h
 unfold ZaH at h
 conv=>whnf
 refine Zx h (fun h=>?_) (fun h=>?_)
 conv=>whnf
 refine vAt h (fun x0 he5a he5b he5x h=>?_)
 conv=>whnf
 refine Zk h (fun l03Arc0 hb6 h=>?_)
 conv=>whnf
 refine Z7 ?_
 refine YI h (fun h=>?_) (fun h=>?_)
 conv=>whnf
 refine Yk h ?_
 rintro I7 μ7 ⟨v1,⟨⟩⟩ zs7 h hI7 hR7
 change Jt a0 v0 x0 v1=some zs7 at h
 unfold Jt at h
 conv=>whnf
 refine Zx h (fun h=>?_) (fun h=>?_)
 conv=>whnf
 refine ⟨by kernel_rfl,?_⟩
 conv=>whnf
 refine vAt h (fun x1 he8a he8b he8x h=>?_)
 conv=>whnf
 refine Zx h (fun h=>?_) (fun h=>?_)
 conv=>whnf
 refine ⟨he8a,he8b,Zo he8x ?_⟩
 conv=>whnf
 refine Zx h (fun h=>?_) (fun h=>?_)
 conv=>whnf
 refine ⟨he8a,he8b,Zo he8x ?_⟩
 conv=>whnf
 refine ⟨trivial,?_⟩
 conv=>whnf
 refine Zx h (fun h=>?_) (fun h=>?_)
 conv=>whnf
 cases h
 obtain rfl:=hR7 _ rfl
 obtain rfl:=hR4 _ rfl
 exact hK
 conv=>whnf
 cases h
 exact ⟨⟨rfl,rfl⟩,hI7 _ rfl⟩
 conv=>whnf
 refine ⟨trivial,?_⟩
 conv=>whnf
 cases h
 exact ⟨⟨rfl,rfl⟩,hI7 _ rfl⟩
 conv=>whnf
 refine ⟨trivial,?_⟩
 conv=>whnf
 cases h
 exact ⟨⟨rfl,rfl⟩,hI7 _ rfl⟩
 conv=>whnf
 cases h
 obtain rfl:=hR7 _ rfl
 exact ⟨⟨rfl,rfl⟩,hI4 _ rfl⟩
 conv=>whnf
 cases h
 obtain rfl:=hR4 _ rfl
 exact hK
 conv=>whnf
 refine Zk h (fun l03Kinds0 hb9 h=>?_)
 conv=>whnf
 refine Zx h (fun h=>?_) (fun h=>?_)
 conv=>whnf
 refine Yk h ?_
 rintro I10 μ10 ⟨v1,⟨⟩⟩ zs10 h hI10 hR10
 change Jp a0 l03Pins0 v1=some zs10 at h
 unfold Jp at h
 conv=>whnf
 refine Zx h (fun h=>?_) (fun h=>?_)
 conv=>whnf
 refine vAt h (fun x0 he11a he11b he11x h=>?_)
 conv=>whnf
 refine Zk h (fun l01In2 hb12 h=>?_)
 conv=>whnf
 refine Z7 ?_
 refine YI h (fun h=>?_) (fun h=>?_)
 conv=>whnf
 cases h
 exact ⟨⟨rfl,rfl⟩,hI10 _ rfl⟩
 conv=>whnf
 cases h
 obtain rfl:=hR10 _ rfl
 obtain rfl:=hR4 _ rfl
 exact hK
 conv=>whnf
 refine Zx h (fun h=>?_) (fun h=>?_)
 conv=>whnf
 refine QZ h (fun hp13 h=>?_)
 conv=>whnf
 cases h
 obtain rfl:=hR10 _ rfl
 obtain rfl:=hR4 _ rfl
 exact hK
 conv=>whnf
 cases h
 obtain rfl:=hR10 _ rfl
 obtain rfl:=hR4 _ rfl
 exact hK
 conv=>whnf
 refine Zx h (fun h=>?_) (fun h=>?_)
 conv=>whnf
 refine ⟨by kernel_rfl,?_⟩
 conv=>whnf
 refine Zx h (fun h=>?_) (fun h=>?_)
 conv=>whnf
 refine vAt h (fun x0 he14a he14b he14x h=>?_)
 conv=>whnf
 refine ⟨by kernel_rfl,?_⟩
 conv=>whnf
 refine ⟨he14a,he14b,Zo he14x ?_⟩
 conv=>whnf
 refine Zx h (fun h=>?_) (fun h=>?_)
 conv=>whnf
 refine vAt h (fun x1 he15a he15b he15x h=>?_)
 conv=>whnf
 refine ⟨by kernel_rfl,?_⟩
 conv=>whnf
 refine ⟨he15a,he15b,Zo he15x ?_⟩
 conv=>whnf
 refine vAt h (fun x2 he16a he16b he16x h=>?_)
 conv=>whnf
 refine ⟨by kernel_rfl,?_⟩
 conv=>whnf
 refine ⟨he16a,he16b,Zo he16x ?_⟩
 conv=>whnf
 refine Z7 ?_
 refine YI h (fun h=>?_) (fun h=>?_)
 conv=>whnf
 refine ⟨trivial,?_⟩
 conv=>whnf
 cases h
 obtain rfl:=hR4 _ rfl
 exact hK
 conv=>whnf
 refine ⟨trivial,?_⟩
 conv=>whnf
 cases h
 obtain rfl:=hR4 _ rfl
 exact hK
 conv=>whnf
 refine ⟨trivial,?_⟩
 conv=>whnf
 cases h
 obtain rfl:=hR4 _ rfl
 exact hK
 conv=>whnf
 refine ⟨trivial,?_⟩
 conv=>whnf
 cases h
 obtain rfl:=hR4 _ rfl
 exact hK
 conv=>whnf
 refine Zx h (fun h=>?_) (fun h=>?_)
 conv=>whnf
 refine Zx h (fun h=>?_) (fun h=>?_)
 conv=>whnf
 refine vAt h (fun x0 he17a he17b he17x h=>?_)
 conv=>whnf
 refine ⟨by kernel_rfl,?_⟩
 conv=>whnf
 refine ⟨he17a,he17b,Zo he17x ?_⟩
 conv=>whnf
 refine Zx h (fun h=>?_) (fun h=>?_)
 conv=>whnf
 refine vAt h (fun x1 he18a he18b he18x h=>?_)
 conv=>whnf
 refine ⟨by kernel_rfl,?_⟩
 conv=>whnf
 refine ⟨he18a,he18b,Zo he18x ?_⟩
 conv=>whnf
 refine Zx h (fun h=>?_) (fun h=>?_)
 conv=>whnf
 refine vAt h (fun x2 he19a he19b he19x h=>?_)
 conv=>whnf
 refine ⟨by kernel_rfl,?_⟩
 conv=>whnf
 refine ⟨he19a,he19b,Zo he19x ?_⟩
 conv=>whnf
 refine Zx h (fun h=>?_) (fun h=>?_)
 conv=>whnf
 cases h
 obtain rfl:=hR4 _ rfl
 exact hK
 conv=>whnf
 cases h
 obtain rfl:=hR4 _ rfl
 exact hK
 conv=>whnf
 cases h
 obtain rfl:=hR4 _ rfl
 exact hK
 conv=>whnf
 cases h
 obtain rfl:=hR4 _ rfl
 exact hK
 conv=>whnf
 cases h
 obtain rfl:=hR4 _ rfl
 exact hK
 conv=>whnf
 cases h
 obtain rfl:=hR4 _ rfl
 exact hK
 conv=>whnf
 cases h
 exact hK
 conv=>whnf
 cases h
 exact hK
 conv=>whnf
 cases h
 exact hK
 conv=>whnf
 cases h
 exact hK
theorem w56 (q0:Zc Tryz.prog 121 c41):Zc Tryz.prog 114 c56:=by
 refine Zg Zq (Ze q0 Zj) mixed {loops:=[(0,[.reg 6 (.dat (.int .i64))]),(2,[.reg 7 (.dat (.int .i64))])]} (fn:=Tryz.f114) Tryz.func114 (by kernel_rfl) (by kernel_rfl) ?_
 rintro ⟨a0,a1,⟨⟩⟩ K ⟨r,h,hK⟩
 change ZcW a0 a1=some r at h
 unfold ZcW at h
 conv=>whnf
 refine Zld h (fun h=>?_) (fun h=>?_)
 conv=>whnf
 cases h
 exact hK
 conv=>whnf
 refine Zld h (fun h=>?_) (fun h=>?_)
 conv=>whnf
 cases h
 exact hK
 conv=>whnf
 refine ZeV ?_
 refine Zx h (fun h=>?_) (fun h=>?_)
 conv=>whnf
 refine ZeV ?_
 refine Zx h (fun h=>?_) (fun h=>?_)
 conv=>whnf
 refine Z7 ?_
 refine Zx h (fun h=>?_) (fun h=>?_)
 conv=>whnf
 refine Yk h ?_
 rintro I0 μ0 ⟨v0,⟨⟩⟩ zs0 h hI0 hR0
 change ZaO a0 v0=some zs0 at h
 unfold ZaO at h
 conv=>whnf
 refine Zx h (fun h=>?_) (fun h=>?_)
 conv=>whnf
 refine vAt h (fun x0 he1a he1b he1x h=>?_)
 conv=>whnf
 refine Zk h (fun l01In0 hb2 h=>?_)
 conv=>whnf
 refine ZeV ?_
 refine YI h (fun h=>?_) (fun h=>?_)
 conv=>whnf
 refine vAt h (fun x1 he3a he3b he3x h=>?_)
 conv=>whnf
 refine Zk h (fun l01In1 hb4 h=>?_)
 conv=>whnf
 refine Z7 ?_
 refine YI h (fun h=>?_) (fun h=>?_)
 conv=>whnf
 refine Zx h (fun h=>?_) (fun h=>?_)
 conv=>whnf
 refine vAt h (fun x2 he5a he5b he5x h=>?_)
 conv=>whnf
 refine ZeV ?_
 refine Zx h (fun h=>?_) (fun h=>?_)
 conv=>whnf
 refine ⟨he3a,he3b,Zo he3x ?_⟩
 conv=>whnf
 refine ZeV ?_
 refine Zx h (fun h=>?_) (fun h=>?_)
 conv=>whnf
 refine Zx h (fun h=>?_) (fun h=>?_)
 conv=>whnf
 refine ⟨he5a,he5b,Zo he5x ?_⟩
 conv=>whnf
 refine Zk h (fun l01In2 hb6 h=>?_)
 conv=>whnf
 refine Z7 ?_
 refine YI h (fun h=>?_) (fun h=>?_)
 conv=>whnf
 cases h
 exact ⟨⟨rfl,rfl⟩,hI0 _ rfl⟩
 conv=>whnf
 cases h
 obtain rfl:=hR0 _ rfl
 exact hK
 conv=>whnf
 cases h
 exact ⟨⟨rfl,rfl⟩,hI0 _ rfl⟩
 conv=>whnf
 cases h
 obtain rfl:=hR0 _ rfl
 exact hK
 conv=>whnf
 cases h
 obtain rfl:=hR0 _ rfl
 exact hK
 conv=>whnf
 refine Zx h (fun h=>?_) (fun h=>?_)
 conv=>whnf
 refine vAt h (fun x2 he7a he7b he7x h=>?_)
 conv=>whnf
 refine Zk h (fun l01In2 hb8 h=>?_)
 conv=>whnf
 refine Z7 ?_
 refine YI h (fun h=>?_) (fun h=>?_)
 conv=>whnf
 cases h
 exact ⟨⟨rfl,rfl⟩,hI0 _ rfl⟩
 conv=>whnf
 cases h
 obtain rfl:=hR0 _ rfl
 exact hK
 conv=>whnf
 cases h
 exact ⟨⟨rfl,rfl⟩,hI0 _ rfl⟩
 conv=>whnf
 cases h
 obtain rfl:=hR0 _ rfl
 exact hK
 conv=>whnf
 cases h
 obtain rfl:=hR0 _ rfl
 exact hK
 conv=>whnf
 refine Yk h ?_
 rintro I9 μ9 ⟨v1,⟨⟩⟩ zs9 h hI9 hR9
 change ZaN a0 v1=some zs9 at h
 unfold ZaN at h
 conv=>whnf
 refine Zx h (fun h=>?_) (fun h=>?_)
 conv=>whnf
 refine vAt h (fun x0 he10a he10b he10x h=>?_)
 conv=>whnf
 refine Zk h (fun l01In0 hb11 h=>?_)
 conv=>whnf
 refine Z7 ?_
 refine YI h (fun h=>?_) (fun h=>?_)
 conv=>whnf
 cases h
 exact ⟨⟨rfl,rfl⟩,hI9 _ rfl⟩
 conv=>whnf
 cases h
 obtain rfl:=hR9 _ rfl
 obtain rfl:=hR0 _ rfl
 exact hK
 conv=>whnf
 cases h
 obtain rfl:=hR9 _ rfl
 obtain rfl:=hR0 _ rfl
 exact hK
 conv=>whnf
 cases h
 exact hK
 conv=>whnf
 cases h
 exact hK
 conv=>whnf
 cases h
 exact hK
theorem w64 (q0:Zc Tryz.prog 174 c63):Zc Tryz.prog 126 c64:=by
 refine Zg Zq (Ze q0 Zj) mixed {} (fn:=Tryz.f126) Tryz.func126 (by kernel_rfl) (by kernel_rfl) ?_
 rintro ⟨d0,name0,⟨⟩⟩ K ⟨r,h,hK⟩
 change Zcg d0 name0=some r at h
 unfold Zcg at h
 conv=>whnf
 refine Zk h (fun l04Index0 hb0 h=>?_)
 conv=>whnf
 cases h
 exact hK
theorem w45 (q0:Zc Tryz.prog 281 c44):Zc Tryz.prog 270 c45:=by
 refine Zg Zq (Ze q0 Zj) mixed {loops:=[(0,[.reg 5 (.dat (.int .i64)),.cell 1004 0 (.int .i64),.cell 1004 1 (.int .i64)])],draws:=[(3,[0,1,3,7,0,16,48,112,255,0,1023],.op 0 (.op 1 (.op 2 (.op 3 (.op 4 (.op 5 (.op 6 (.op 7 (.op 8 (.alt 9 (.alt 10 (.done) (.done)) (.done))))))))))),(7,[0,1,0,4,0,28,60,127,255,511],.op 0 (.op 1 (.op 2 (.op 3 (.op 4 (.op 5 (.op 6 (.op 7 (.op 8 (.alt 9 (.done) (.done))))))))))),(8,[0,1,0,4,0,28,60,127,255,511],.op 0 (.op 1 (.op 2 (.op 3 (.op 4 (.op 5 (.op 6 (.op 7 (.op 8 (.alt 9 (.done) (.done)))))))))))]} (fn:=Tryz.f270) Tryz.func270 (by kernel_rfl) (by kernel_rfl) ?_
 rintro ⟨t0,⟨⟩⟩ K ⟨r,h,hK⟩
 change J7 t0=some r at h
 unfold J7 at h
 conv=>whnf
 refine Zk h (fun IsTable0 hb0 h=>?_)
 conv=>whnf
 refine Z7 ?_
 refine YI h (fun h=>?_) (fun h=>?_)
 conv=>whnf
 refine ⟨by kernel_rfl,?_⟩
 conv=>whnf
 refine vAt h (fun x0 he1a he1b he1x h=>?_)
 conv=>whnf
 refine ⟨he1a,he1b,Zo he1x ?_⟩
 conv=>whnf
 refine ⟨trivial,?_⟩
 conv=>whnf
 refine Yk h ?_
 rintro I2 μ2 ⟨i0,c0,c1,⟨⟩⟩ zs2 h hI2 hR2
 change XV t0 i0 c0 c1=some zs2 at h
 unfold XV at h
 conv=>whnf
 refine Zx h (fun h=>?_) (fun h=>?_)
 conv=>whnf
 refine ⟨by kernel_rfl,?_⟩
 conv=>whnf
 refine vAt h (fun x1 he3a he3b he3x h=>?_)
 conv=>whnf
 refine ⟨trivial,?_⟩
 conv=>whnf
 refine ⟨by kernel_rfl,?_⟩
 conv=>whnf
 refine ⟨he3a,he3b,Zo he3x ?_⟩
 conv=>whnf
 refine ⟨trivial,?_⟩
 conv=>whnf
 cases h
 exact ⟨⟨rfl,rfl⟩,hI2 _ rfl⟩
 conv=>whnf
 cases h
 obtain rfl:=hR2 _ rfl
 exact hK
 conv=>whnf
 cases h
 exact hK
theorem w48:Zc Tryz.prog 231 c48:=by
 refine Zg Zq Zj mixed {loops:=[(0,[.reg 4 (.dat (.int .i64)),.ent 1 (nat_lit 2) (.flat Zsv.ety)])]} (fn:=Tryz.f231) Tryz.func231 (by kernel_rfl) (by kernel_rfl) ?_
 rintro ⟨c0,⟨⟩⟩ K ⟨r,h,hK⟩
 change Zcl c0=some r at h
 unfold Zcl at h
 conv=>whnf
 refine ⟨by decide,?_⟩
 conv=>whnf
 refine ⟨by decide,?_⟩
 conv=>whnf
 refine ⟨by decide,?_⟩
 conv=>whnf
 refine ⟨by decide,?_⟩
 conv=>whnf
 refine Yk h ?_
 rintro I0 μ0 ⟨i0,l0,⟨⟩⟩ zs0 h hI0 hR0
 change Vg c0 i0 l0=some zs0 at h
 unfold Vg at h
 conv=>whnf
 refine Zx h (fun h=>?_) (fun h=>?_)
 conv=>whnf
 refine vAt h (fun x0 he1a he1b he1x h=>?_)
 conv=>whnf
 refine vAt h (fun x1 he2a he2b he2x h=>?_)
 conv=>whnf
 refine ⟨by kernel_rfl,?_⟩
 conv=>whnf
 refine ⟨he2a,he2b,Zo he2x ?_⟩
 conv=>whnf
 refine ⟨he2a,he2b,Zo he2x ?_⟩
 conv=>whnf
 refine ⟨by kernel_rfl,?_⟩
 conv=>whnf
 refine ⟨by decide,?_⟩
 conv=>whnf
 refine ⟨he2a,he2b,Zo he2x ?_⟩
 conv=>whnf
 cases h
 exact ⟨⟨rfl,rfl⟩,hI0 _ rfl⟩
 conv=>whnf
 cases h
 obtain rfl:=hR0 _ rfl
 exact hK
theorem w73 (q0:Zc Tryz.prog 165 c72):Zc Tryz.prog 115 c73:=by
 refine Zg YS (Ze q0 Zj) mixed {loops:=[(0,[.reg 4 (.dat (.int .i64)),.cello 1003 0 (.ol 169 (Zlp))])],draws:=[(5,[0,1,0,4,0,28,60,124,252,511,1023,2047],.op 0 (.op 1 (.op 2 (.op 3 (.op 4 (.op 5 (.op 6 (.alt 7 (.alt 8 (.alt 9 (.op 10 (.alt 11 (.done) (.done))) (.done)) (.done)) (.done)))))))))]} (fn:=Tryz.f115) Tryz.func115 (by kernel_rfl) (by kernel_rfl) ?_
 rintro ⟨l0,⟨⟩⟩ K ⟨r,h,hK⟩
 change VE l0=some r at h
 unfold VE at h
 conv=>whnf
 refine Yk h ?_
 rintro I0 μ0 ⟨i0,c0,⟨⟩⟩ zs0 h hI0 hR0
 change Xm l0 i0 c0=some zs0 at h
 unfold Xm at h
 conv=>whnf
 intro fp1
 conv=>whnf
 refine Zx h (fun h=>?_) (fun h=>?_)
 conv=>whnf
 refine ⟨by kernel_rfl,?_⟩
 conv=>whnf
 refine vAt h (fun x0 he2a he2b he2x h=>?_)
 conv=>whnf
 refine Zk h (fun l03Own0 hb3 h=>?_)
 conv=>whnf
 intro fp4
 conv=>whnf
 intro fp5
 conv=>whnf
 refine QZ h (fun hp6 h=>?_)
 conv=>whnf
 intro fp7
 conv=>whnf
 refine ⟨trivial,?_⟩
 conv=>whnf
 cases h
 exact ⟨⟨rfl,rfl⟩,hI0 _ rfl⟩
 conv=>whnf
 cases h
 obtain rfl:=hR0 _ rfl
 exact hK
theorem w76 (q0:Zc Tryz.prog 115 c73) (q2:Zc Tryz.prog 116 c74) (q1:Zc Tryz.prog 81 c75):Zc Tryz.prog 61 c76:=by
 refine Zg YS (Ze q0 (Ze q2 (Ze q1 Zj))) mixed {loops:=[(0,[.reg 4 (.dat (.int .i64)),.cello 1003 4 (.ol 64 (Zhu))])],draws:=[(1,[0,1,3,0,8,31,63,0,255],.op 0 (.op 1 (.op 3 (.op 4 (.alt 2 (.alt 5 (.op 6 (.alt 7 (.alt 8 (.done) (.done)) (.done))) (.alt 7 (.alt 5 (.op 6 (.alt 8 (.done) (.done))) (.done)) (.done))) (.alt 7 (.alt 2 (.alt 5 (.op 6 (.alt 8 (.done) (.done))) (.done)) (.done)) (.done))))))),(5,[0,1,0,4,0,28,60,124,252,511,1023,2047],.op 0 (.op 1 (.op 2 (.op 3 (.op 4 (.op 5 (.op 6 (.alt 7 (.alt 8 (.alt 9 (.op 10 (.alt 11 (.done) (.done))) (.done)) (.done)) (.done)))))))))]} (fn:=Tryz.f61) Tryz.func61 (by kernel_rfl) (by kernel_rfl) ?_
 rintro ⟨b0,⟨⟩⟩ K ⟨r,h,hK⟩
 change ZdY b0=some r at h
 unfold ZdY at h
 focus
  conv=>whnf
  refine ⟨by kernel_rfl,?_⟩
  conv=>whnf
  obtain ⟨l03OwnLibrary0,hb0,h⟩:=Option.bind_eq_some_iff.1 h
  obtain ⟨l05Own0,hb2,h⟩:=Option.bind_eq_some_iff.1 h
  refine ⟨?_,?_⟩
  rotate_left
  focus
   conv=>whnf
   refine ⟨_,hb0,?_⟩
   conv=>whnf
   intro fp12
   conv=>whnf
   refine ⟨_,hb2,?_⟩
   conv=>whnf
   intro fp13
   conv=>whnf
   refine ⟨trivial,?_⟩
  rotate_right
  focus
   conv=>whnf
   refine ⟨_,hb0,?_⟩
   conv=>whnf
   intro fp12
   conv=>whnf
   refine ⟨?_,?_⟩
   rotate_left
   focus
    conv=>whnf
    refine ⟨_,hb2,?_⟩
    conv=>whnf
    intro fp13
    conv=>whnf
    refine ⟨trivial,?_⟩
   rotate_right
   focus
    conv=>whnf
    refine ⟨_,hb2,?_⟩
    conv=>whnf
    intro fp13
    conv=>whnf
    refine ⟨trivial,?_⟩
  all_goals
   conv=>whnf
   refine Yk h ?_
   rintro I4 μ4 ⟨i0,c0,⟨⟩⟩ zs4 h hI4 hR4
   change Jq b0 l03OwnLibrary0 l05Own0 i0 c0=some zs4 at h
   unfold Jq at h
   conv=>whnf
   intro fp5
   conv=>whnf
   refine Zx h (fun h=>?_) (fun h=>?_)
   conv=>whnf
   refine ⟨by kernel_rfl,?_⟩
   conv=>whnf
   refine vAt h (fun x0 he6a he6b he6x h=>?_)
   conv=>whnf
   refine Zk h (fun l07OwnWire0 hb7 h=>?_)
   conv=>whnf
   intro fp8
   conv=>whnf
   refine QZ h (fun hp9 h=>?_)
   conv=>whnf
   intro fp10
   conv=>whnf
   refine ⟨trivial,?_⟩
   conv=>whnf
   cases h
   exact ⟨⟨rfl,rfl⟩,hI4 _ rfl⟩
   conv=>whnf
   cases h
   obtain rfl:=hR4 _ rfl
   exact hK
theorem w75 (q0:Zc Tryz.prog 144 c69):Zc Tryz.prog 81 c75:=by
 refine Zg Zq (Ze q0 Zj) mixed {draws:=[(1,[0,1,3,0,8,31,0,64,255,0,512,2047,4095,8191],.op 0 (.op 1 (.op 3 (.op 4 (.op 6 (.op 7 (.op 9 (.op 10 (.alt 2 (.alt 5 (.alt 8 (.alt 11 (.op 12 (.alt 13 (.done) (.done))) (.done)) (.done)) (.done)) (.done))))))))))]} (fn:=Tryz.f81) Tryz.func81 (by kernel_rfl) (by kernel_rfl) ?_
 rintro ⟨w0,⟨⟩⟩ K ⟨r,h,hK⟩
 change JR w0=some r at h
 unfold JR at h
 conv=>whnf
 refine ⟨by kernel_rfl,?_⟩
 conv=>whnf
 refine Zk h (fun l02Ints0 hb0 h=>?_)
 conv=>whnf
 refine Zk h (fun l02Ints1 hb1 h=>?_)
 conv=>whnf
 refine Zk h (fun l02Ints2 hb2 h=>?_)
 conv=>whnf
 refine Zk h (fun l02Ints3 hb3 h=>?_)
 conv=>whnf
 refine ⟨trivial,?_⟩
 conv=>whnf
 cases h
 exact hK
theorem w83 (q7:Zc Tryz.prog 61 c76) (q2:Zc Tryz.prog 78 c54) (q3:Zc Tryz.prog 82 c81) (q4:Zc Tryz.prog 83 c82) (q6:Zc Tryz.prog 80 c77) (q0:Zc Tryz.prog 84 c78) (q5:Zc Tryz.prog 85 c80) (q1:Zc Tryz.prog 81 c75):Zc Tryz.prog 38 c83:=by
 refine Zg YS (Ze q7 (Ze q2 (Ze q3 (Ze q4 (Ze q6 (Ze q0 (Ze q5 (Ze q1 Zj)))))))) mixed {draws:=[(5,[0,1,3,0,0,16,56,120,248,0,512,2047,4095,8191],.op 0 (.op 1 (.op 2 (.op 3 (.op 4 (.op 5 (.op 6 (.op 7 (.op 8 (.op 9 (.op 10 (.op 11 (.op 12 (.alt 13 (.done) (.done))))))))))))))),(13,[0,1,0,0,8,28,60,0,128,511],.op 0 (.op 1 (.op 2 (.op 3 (.op 4 (.op 5 (.op 6 (.op 7 (.op 8 (.alt 9 (.done) (.done))))))))))),(16,[0,1,0,4,0,16,48,127,255],.op 0 (.op 1 (.op 2 (.op 3 (.op 4 (.op 5 (.alt 6 (.op 7 (.alt 8 (.done) (.done))) (.done))))))))]} (fn:=Tryz.f38) Tryz.func38 (by kernel_rfl) (by kernel_rfl) ?_
 rintro ⟨a0,a1,⟨⟩⟩ K ⟨r,h,hK⟩
 change Zcn a0 a1=some r at h
 unfold Zcn at h
 conv=>whnf
 refine Zk h (fun l07Own0 hb0 h=>?_)
 conv=>whnf
 intro fp1
 conv=>whnf
 intro fp2
 conv=>whnf
 intro fp3
 conv=>whnf
 refine Zk h (fun l05Places0 hb4 h=>?_)
 conv=>whnf
 refine Zx h (fun h=>?_) (fun h=>?_)
 conv=>whnf
 refine ⟨by kernel_rfl,?_⟩
 conv=>whnf
 refine vAt h (fun x0 he5a he5b he5x h=>?_)
 conv=>whnf
 refine ⟨by kernel_rfl,?_⟩
 conv=>whnf
 refine ⟨he5a,he5b,Zo he5x ?_⟩
 conv=>whnf
 refine vAt h (fun x1 he6a he6b he6x h=>?_)
 conv=>whnf
 refine ⟨he6a,he6b,Zo he6x ?_⟩
 conv=>whnf
 intro fp7
 conv=>whnf
 refine ⟨trivial,?_⟩
 conv=>whnf
 cases h
 exact hK
 conv=>whnf
 refine Zx h (fun h=>?_) (fun h=>?_)
 conv=>whnf
 refine Zk h (fun l08Insert0 hb8 h=>?_)
 conv=>whnf
 intro fp9
 conv=>whnf
 intro fp10
 conv=>whnf
 intro fp11
 conv=>whnf
 cases h
 exact hK
 conv=>whnf
 refine Zx h (fun h=>?_) (fun h=>?_)
 conv=>whnf
 refine Zk h (fun l08Remove0 hb12 h=>?_)
 conv=>whnf
 intro fp13
 conv=>whnf
 intro fp14
 conv=>whnf
 intro fp15
 conv=>whnf
 cases h
 exact hK
 conv=>whnf
 refine Zx h (fun h=>?_) (fun h=>?_)
 conv=>whnf
 refine Zk h (fun l08Nodes0 hb16 h=>?_)
 conv=>whnf
 refine vAt h (fun x0 he17a he17b he17x h=>?_)
 conv=>whnf
 refine ⟨by kernel_rfl,?_⟩
 conv=>whnf
 refine ⟨by decide,?_⟩
 conv=>whnf
 refine ⟨he17a,he17b,Zo he17x ?_⟩
 conv=>whnf
 refine ⟨by kernel_rfl,?_⟩
 conv=>whnf
 refine vAt h (fun x1 he18a he18b he18x h=>?_)
 conv=>whnf
 refine ⟨by kernel_rfl,?_⟩
 conv=>whnf
 refine ⟨he18a,he18b,Zo he18x ?_⟩
 conv=>whnf
 refine Zk h (fun l08Connect0 hb19 h=>?_)
 conv=>whnf
 intro fp20
 conv=>whnf
 refine ⟨trivial,?_⟩
 conv=>whnf
 refine Zk h (fun l08Attach0 hb21 h=>?_)
 conv=>whnf
 intro fp22
 conv=>whnf
 intro fp23
 conv=>whnf
 intro fp24
 conv=>whnf
 cases h
 exact hK
 conv=>whnf
 refine Zx h (fun h=>?_) (fun h=>?_)
 conv=>whnf
 refine ⟨by kernel_rfl,?_⟩
 conv=>whnf
 refine Zk h (fun l07OwnWire0 hb25 h=>?_)
 conv=>whnf
 refine vAt h (fun x0 he26a he26b he26x h=>?_)
 conv=>whnf
 refine ⟨he26a,he26b,Zo he26x ?_⟩
 conv=>whnf
 intro fp27
 conv=>whnf
 refine ⟨trivial,?_⟩
 conv=>whnf
 cases h
 exact hK
 conv=>whnf
 cases h
 exact hK
theorem w61:Zc Tryz.prog 123 c61:=by
 refine Zg Zq Zj mixed {} (fn:=Tryz.f123) Tryz.func123 (by kernel_rfl) (by kernel_rfl) ?_
 rintro ⟨c0,⟨⟩⟩ K ⟨r,h,hK⟩
 change Zay c0=some r at h
 unfold Zay at h
 conv=>whnf
 refine Zx h (fun h=>?_) (fun h=>?_)
 conv=>whnf
 cases h
 exact hK
 conv=>whnf
 cases h
 exact hK
end Go.Proofs.YtehkanadahncgaaGreatDoor
