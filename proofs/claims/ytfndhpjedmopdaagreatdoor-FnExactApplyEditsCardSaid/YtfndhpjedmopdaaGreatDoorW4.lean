/-
  The functions keep their contracts, if what they call does. Printed by program.
-/
import Derived.Test.YtfndhpjedmopdaaGreatDoorM
import Derived.KernelRfl
namespace Go.Proofs.YtfndhpjedmopdaaGreatDoor
open Go Go.Sx
set_option maxRecDepth 100000
set_option maxHeartbeats 3200000
set_option linter.unusedVariables false
set_option linter.unusedSimpArgs false
theorem ZBk (q0:Zc Tryz.prog 303 ZwQ) (q1:Zc Tryz.prog 211 Zwk) (q2:Zc Tryz.prog 304 Zyg):Zc Tryz.prog 277 Zy1:=by
 refine Zg Zq (Ze q0 (Ze q1 (Ze q2 Zj))) mixed {loops:=[(0,[.reg 3 (.dat (.int .i64)),.reg 9 (.dat (.int .i64))])],draws:=[(10,[0,1,3,7,15,31,7,71,199,511,1023,2047,4095,8191,16383,32767,65535],.op 0 (.op 1 (.op 2 (.op 3 (.op 4 (.op 5 (.op 6 (.alt 7 (.op 8 (.op 9 (.op 10 (.op 11 (.op 12 (.op 13 (.alt 14 (.op 15 (.op 16 (.done))) (.done)))))))) (.done))))))))),(12,[0,1,3,7,15,31,63,127,255,511,1023,2047,4095,8191,16383,32767,16383,131071,262143,524287,1048575],.op 0 (.op 1 (.op 2 (.op 3 (.op 4 (.op 5 (.op 6 (.op 7 (.op 8 (.op 9 (.alt 10 (.op 11 (.op 12 (.op 13 (.op 14 (.op 16 (.alt 15 (.alt 17 (.op 18 (.op 19 (.op 20 (.done)))) (.done)) (.done))))))) (.done))))))))))))]} (fn:=Tryz.f277) Tryz.func277 (by kernel_rfl) (by kernel_rfl) ?_
 rintro ⟨a0,⟨⟩⟩ K ⟨r,h,hK⟩
 change V7 a0=some r at h
 unfold V7 at h
 conv=>whnf
 refine Yk h ?_
 rintro I0 μ0 ⟨v0,v1,⟨⟩⟩ zs0 h hI0 hR0
 change Y3 a0 v0 v1=some zs0 at h
 unfold Y3 at h
 conv=>whnf
 refine Zx h (fun h=>?_) (fun h=>?_)
 conv=>whnf
 refine vAt h (fun x0 he1a he1b he1x h=>?_)
 conv=>whnf
 refine YJ h (fun h=>?_) (fun h=>?_)
 conv=>whnf
 cases h
 exact ⟨⟨rfl,rfl⟩,hI0 _ rfl⟩
 conv=>whnf
 cases h
 exact ⟨⟨rfl,rfl⟩,hI0 _ rfl⟩
 conv=>whnf
 refine Zx h (fun h=>?_) (fun h=>?_)
 conv=>whnf
 refine ⟨by kernel_rfl,?_⟩
 conv=>whnf
 refine Zx h (fun h=>?_) (fun h=>?_)
 conv=>whnf
 refine Zk h (fun output0 hb2 h=>?_)
 conv=>whnf
 refine QJ h (fun hp3 h=>?_)
 conv=>whnf
 refine Zx h (fun h=>?_) (fun h=>?_)
 conv=>whnf
 refine Zk h (fun areWithin0 hb4 h=>?_)
 conv=>whnf
 refine ⟨trivial,?_⟩
 conv=>whnf
 cases h
 obtain rfl:=hR0 _ rfl
 exact hK
 conv=>whnf
 refine ⟨trivial,?_⟩
 conv=>whnf
 cases h
 obtain rfl:=hR0 _ rfl
 exact hK
 conv=>whnf
 refine ⟨trivial,?_⟩
 conv=>whnf
 cases h
 obtain rfl:=hR0 _ rfl
 exact hK
 conv=>whnf
 refine Zx h (fun h=>?_) (fun h=>?_)
 conv=>whnf
 refine ⟨by kernel_rfl,?_⟩
 conv=>whnf
 refine Zx h (fun h=>?_) (fun h=>?_)
 conv=>whnf
 refine Zx h (fun h=>?_) (fun h=>?_)
 conv=>whnf
 refine Zk h (fun has0 hb5 h=>?_)
 conv=>whnf
 refine Z5 ?_
 refine YJ h (fun h=>?_) (fun h=>?_)
 conv=>whnf
 refine ⟨trivial,?_⟩
 conv=>whnf
 cases h
 obtain rfl:=hR0 _ rfl
 exact hK
 conv=>whnf
 refine Zk h (fun has1 hb6 h=>?_)
 conv=>whnf
 refine Zk h (fun has2 hb7 h=>?_)
 conv=>whnf
 refine ⟨trivial,?_⟩
 conv=>whnf
 cases h
 obtain rfl:=hR0 _ rfl
 exact hK
 conv=>whnf
 refine ⟨trivial,?_⟩
 conv=>whnf
 cases h
 obtain rfl:=hR0 _ rfl
 exact hK
 conv=>whnf
 refine ⟨trivial,?_⟩
 conv=>whnf
 cases h
 obtain rfl:=hR0 _ rfl
 exact hK
 conv=>whnf
 refine Zx h (fun h=>?_) (fun h=>?_)
 conv=>whnf
 refine Zx h (fun h=>?_) (fun h=>?_)
 conv=>whnf
 refine Zx h (fun h=>?_) (fun h=>?_)
 conv=>whnf
 refine Zk h (fun has0 hb8 h=>?_)
 conv=>whnf
 refine YJ h (fun h=>?_) (fun h=>?_)
 conv=>whnf
 refine Zk h (fun has1 hb9 h=>?_)
 conv=>whnf
 refine YJ h (fun h=>?_) (fun h=>?_)
 conv=>whnf
 refine Zk h (fun has2 hb10 h=>?_)
 conv=>whnf
 cases h
 obtain rfl:=hR0 _ rfl
 exact hK
 conv=>whnf
 cases h
 obtain rfl:=hR0 _ rfl
 exact hK
 conv=>whnf
 cases h
 obtain rfl:=hR0 _ rfl
 exact hK
 conv=>whnf
 cases h
 obtain rfl:=hR0 _ rfl
 exact hK
 conv=>whnf
 cases h
 obtain rfl:=hR0 _ rfl
 exact hK
 conv=>whnf
 cases h
 obtain rfl:=hR0 _ rfl
 exact hK
theorem ZDm (q0:Zc Tryz.prog 246 c93):Zc Tryz.prog 204 Zzp:=by
 refine Zg Zq (Ze q0 Zj) mixed {loops:=[(0,[.reg 3 (.own (.ol 9 (.flat (.str)))),.reg 12 (.dat (.int .i64))]),(2,[.reg 4 (.own (.ol 9 (.flat (.str)))),.reg 25 (.dat (.int .i64))])]} (fn:=Tryz.f204) Tryz.func204 (by kernel_rfl) (by kernel_rfl) ?_
 rintro ⟨d0,⟨⟩⟩ K ⟨r,h,hK⟩
 change Va d0=some r at h
 unfold Va at h
 conv=>whnf
 refine Yk h ?_
 rintro I0 μ0 ⟨instances0,v0,⟨⟩⟩ zs0 h hI0 hR0
 change XK d0 instances0 v0=some zs0 at h
 unfold XK at h
 conv=>whnf
 refine Zx h (fun h=>?_) (fun h=>?_)
 conv=>whnf
 refine vAt h (fun x0 he1a he1b he1x h=>?_)
 conv=>whnf
 refine QJ h (fun hp2 h=>?_)
 conv=>whnf
 cases h
 exact ⟨⟨rfl,rfl⟩,hI0 _ rfl⟩
 conv=>whnf
 refine Yk h ?_
 rintro I3 μ3 ⟨ports0,v1,⟨⟩⟩ zs3 h hI3 hR3
 change XI d0 instances0 ports0 v1=some zs3 at h
 unfold XI at h
 conv=>whnf
 refine Zx h (fun h=>?_) (fun h=>?_)
 conv=>whnf
 refine vAt h (fun x0 he4a he4b he4x h=>?_)
 conv=>whnf
 refine QJ h (fun hp5 h=>?_)
 conv=>whnf
 cases h
 exact ⟨⟨rfl,rfl⟩,hI3 _ rfl⟩
 conv=>whnf
 refine Zx h (fun h=>?_) (fun h=>?_)
 conv=>whnf
 refine Zx h (fun h=>?_) (fun h=>?_)
 conv=>whnf
 refine Zx h (fun h=>?_) (fun h=>?_)
 conv=>whnf
 refine Zk h (fun areNames0 hb6 h=>?_)
 conv=>whnf
 refine YJ h (fun h=>?_) (fun h=>?_)
 conv=>whnf
 refine Zk h (fun areNames1 hb7 h=>?_)
 conv=>whnf
 refine YJ h (fun h=>?_) (fun h=>?_)
 conv=>whnf
 refine Zk h (fun areNames2 hb8 h=>?_)
 conv=>whnf
 cases h
 obtain rfl:=hR3 _ rfl
 obtain rfl:=hR0 _ rfl
 exact hK
 conv=>whnf
 cases h
 obtain rfl:=hR3 _ rfl
 obtain rfl:=hR0 _ rfl
 exact hK
 conv=>whnf
 cases h
 obtain rfl:=hR3 _ rfl
 obtain rfl:=hR0 _ rfl
 exact hK
 conv=>whnf
 cases h
 obtain rfl:=hR3 _ rfl
 obtain rfl:=hR0 _ rfl
 exact hK
 conv=>whnf
 cases h
 obtain rfl:=hR3 _ rfl
 obtain rfl:=hR0 _ rfl
 exact hK
 conv=>whnf
 cases h
 obtain rfl:=hR3 _ rfl
 obtain rfl:=hR0 _ rfl
 exact hK
theorem ZAZ (q2:Zc Tryz.prog 119 c138) (q5:Zc Tryz.prog 221 ZyA) (q6:Zc Tryz.prog 222 c162) (q7:Zc Tryz.prog 223 c89) (q3:Zc Tryz.prog 224 Zzi) (q1:Zc Tryz.prog 225 Zzg) (q0:Zc Tryz.prog 226 c167) (q4:Zc Tryz.prog 121 c96) (q8:Zc Tryz.prog 156 Zxi):Zc Tryz.prog 161 c168:=by
 refine Zg Zq (Ze q2 (Ze q5 (Ze q6 (Ze q7 (Ze q3 (Ze q1 (Ze q0 (Ze q4 (Ze q8 Zj))))))))) mixed {draws:=[(6,[0,1,3,7,15,31,63,127,255,511,1023,255,2303,255,8447,30975,63743,129279,262143,524287,255,1048831,3145983,255,8388863,32506111,66060543,134217727,268435455,536870911],.op 0 (.op 1 (.op 2 (.op 3 (.op 4 (.op 5 (.op 6 (.op 7 (.op 8 (.op 9 (.op 10 (.op 11 (.op 12 (.op 13 (.op 14 (.op 15 (.op 16 (.op 17 (.op 18 (.op 19 (.op 20 (.op 21 (.op 22 (.op 23 (.op 24 (.op 25 (.op 26 (.alt 27 (.op 28 (.op 29 (.done))) (.done))))))))))))))))))))))))))))),(12,[0,0,2,7,15,31,63,127,255,255,767,2047,4095,8191,255,16639,65535,131071,262143],.op 0 (.op 1 (.op 2 (.op 3 (.op 4 (.op 5 (.op 6 (.op 7 (.op 8 (.op 9 (.op 10 (.op 11 (.op 12 (.op 13 (.op 14 (.op 15 (.op 16 (.op 17 (.op 18 (.done)))))))))))))))))))),(13,[0,1,0,4,0,16,60,124,252,508,1023,2047],.op 0 (.op 1 (.op 2 (.op 3 (.op 4 (.op 5 (.op 6 (.op 7 (.op 8 (.alt 9 (.alt 10 (.op 11 (.done)) (.done)) (.done)))))))))))]} (fn:=Tryz.f161) Tryz.func161 (by kernel_rfl) (by kernel_rfl) ?_
 rintro ⟨a0,a1,⟨⟩⟩ K ⟨r,h,hK⟩
 change Q9 a0 a1=some r at h
 unfold Q9 at h
 conv=>whnf
 refine Zk h (fun places0 hb0 h=>?_)
 conv=>whnf
 refine Zx h (fun h=>?_) (fun h=>?_)
 conv=>whnf
 refine vAt h (fun x0 he1a he1b he1x h=>?_)
 conv=>whnf
 refine ⟨by kernel_rfl,?_⟩
 conv=>whnf
 refine ⟨he1a,he1b,Zo he1x ?_⟩
 conv=>whnf
 refine ⟨by kernel_rfl,?_⟩
 conv=>whnf
 refine Zx h (fun h=>?_) (fun h=>?_)
 conv=>whnf
 refine YJ h (fun h=>?_) (fun h=>?_)
 conv=>whnf
 refine vAt h (fun x1 he2a he2b he2x h=>?_)
 conv=>whnf
 refine vAt h (fun x2 he3a he3b he3x h=>?_)
 conv=>whnf
 refine vAt h (fun x3 he4a he4b he4x h=>?_)
 conv=>whnf
 refine Zk h (fun fitsSwap0 hb5 h=>?_)
 conv=>whnf
 refine ⟨trivial,?_⟩
 conv=>whnf
 cases h
 exact hK
 conv=>whnf
 refine ⟨trivial,?_⟩
 conv=>whnf
 cases h
 exact hK
 conv=>whnf
 refine ⟨trivial,?_⟩
 conv=>whnf
 cases h
 exact hK
 conv=>whnf
 refine Zx h (fun h=>?_) (fun h=>?_)
 conv=>whnf
 refine vAt h (fun x0 he6a he6b he6x h=>?_)
 conv=>whnf
 refine ⟨by kernel_rfl,?_⟩
 conv=>whnf
 refine ⟨he6a,he6b,Zo he6x ?_⟩
 conv=>whnf
 refine Z5 ?_
 refine YJ h (fun h=>?_) (fun h=>?_)
 conv=>whnf
 cases h
 exact hK
 conv=>whnf
 refine vAt h (fun x1 he7a he7b he7x h=>?_)
 conv=>whnf
 refine Zk h (fun isBuffer0 hb8 h=>?_)
 conv=>whnf
 refine YJ h (fun h=>?_) (fun h=>?_)
 conv=>whnf
 refine Zk h (fun isName0 hb9 h=>?_)
 conv=>whnf
 refine YJ h (fun h=>?_) (fun h=>?_)
 conv=>whnf
 refine Zk h (fun InstanceNamed0 hb10 h=>?_)
 conv=>whnf
 refine Zx h (fun h=>?_) (fun h=>?_)
 conv=>whnf
 refine Zk h (fun netNamed0 hb11 h=>?_)
 conv=>whnf
 cases h
 exact hK
 conv=>whnf
 cases h
 exact hK
 conv=>whnf
 cases h
 exact hK
 conv=>whnf
 cases h
 exact hK
 conv=>whnf
 refine Zx h (fun h=>?_) (fun h=>?_)
 conv=>whnf
 refine Zk h (fun canUnbuffer0 hb12 h=>?_)
 conv=>whnf
 cases h
 exact hK
 conv=>whnf
 refine Zx h (fun h=>?_) (fun h=>?_)
 conv=>whnf
 refine ⟨by kernel_rfl,?_⟩
 conv=>whnf
 refine vAt h (fun x0 he13a he13b he13x h=>?_)
 conv=>whnf
 refine ⟨by kernel_rfl,?_⟩
 conv=>whnf
 refine ⟨he13a,he13b,Zo he13x ?_⟩
 conv=>whnf
 refine Z5 ?_
 refine YJ h (fun h=>?_) (fun h=>?_)
 conv=>whnf
 refine ⟨trivial,?_⟩
 conv=>whnf
 cases h
 exact hK
 conv=>whnf
 refine ⟨he13a,he13b,Zo he13x ?_⟩
 conv=>whnf
 refine ⟨by kernel_rfl,?_⟩
 conv=>whnf
 refine ⟨he13a,he13b,Zo he13x ?_⟩
 conv=>whnf
 refine ⟨trivial,?_⟩
 conv=>whnf
 cases h
 exact hK
 conv=>whnf
 refine ⟨by kernel_rfl,?_⟩
 conv=>whnf
 refine vAt h (fun x0 he14a he14b he14x h=>?_)
 conv=>whnf
 refine Zk h (fun int64_0 hb15 h=>?_)
 conv=>whnf
 refine Zk h (fun IsWire0 hb16 h=>?_)
 conv=>whnf
 refine ⟨trivial,?_⟩
 conv=>whnf
 cases h
 exact hK
theorem ZAu (q0:Zc Tryz.prog 256 c164):Zc Tryz.prog 224 Zzi:=by
 refine Zg Zq (Ze q0 Zj) mixed {} (fn:=Tryz.f224) Tryz.func224 (by kernel_rfl) (by kernel_rfl) ?_
 rintro ⟨d0,name0,⟨⟩⟩ K ⟨r,h,hK⟩
 change VX d0 name0=some r at h
 unfold VX at h
 conv=>whnf
 refine Zk h (fun c1_0 hb0 h=>?_)
 conv=>whnf
 cases h
 exact hK
theorem ZAH (q1:Zc Tryz.prog 155 ZxS) (q0:Zc Tryz.prog 119 c138) (q2:Zc Tryz.prog 156 Zxi):Zc Tryz.prog 91 c141:=by
 refine Zg Zq (Ze q1 (Ze q0 (Ze q2 Zj))) mixed {loops:=[(0,[.reg 32 (.dat (.int .i64)),.ent 1 (nat_lit 2) (.flat Ztr.ety)]),(2,[.reg 50 (.dat (.int .i64))])],draws:=[(13,[0,0,0,6,14,31,63],.op 0 (.op 1 (.op 2 (.op 3 (.op 4 (.alt 5 (.op 6 (.done)) (.done)))))))]} (fn:=Tryz.f91) Tryz.func91 (by kernel_rfl) (by kernel_rfl) ?_
 rintro ⟨b0,⟨⟩⟩ K ⟨r,h,hK⟩
 change ZdD b0=some r at h
 unfold ZdD at h
 conv=>whnf
 refine Zk h (fun IsDesign0 hb0 h=>?_)
 conv=>whnf
 refine Ze5 ?_
 refine YJ h (fun h=>?_) (fun h=>?_)
 conv=>whnf
 refine Z5 ?_
 refine Zx h (fun h=>?_) (fun h=>?_)
 conv=>whnf
 refine QJ h (fun hp1 h=>?_)
 conv=>whnf
 refine QJ h (fun hp2 h=>?_)
 conv=>whnf
 refine QJ h (fun hp3 h=>?_)
 conv=>whnf
 refine QJ h (fun hp4 h=>?_)
 conv=>whnf
 refine Zk h (fun places0 hb5 h=>?_)
 conv=>whnf
 refine Yk h ?_
 rintro I6 μ6 ⟨v0,l0,⟨⟩⟩ zs6 h hI6 hR6
 change V4 b0 places0 v0 l0=some zs6 at h
 unfold V4 at h
 conv=>whnf
 refine Zx h (fun h=>?_) (fun h=>?_)
 conv=>whnf
 refine vAt h (fun x0 he7a he7b he7x h=>?_)
 conv=>whnf
 refine ⟨by kernel_rfl,?_⟩
 conv=>whnf
 refine ⟨he7a,he7b,Zo he7x ?_⟩
 conv=>whnf
 refine Z5 ?_
 refine YJ h (fun h=>?_) (fun h=>?_)
 conv=>whnf
 cases h
 exact ⟨⟨rfl,rfl⟩,hI6 _ rfl⟩
 conv=>whnf
 refine vAt h (fun x1 he8a he8b he8x h=>?_)
 conv=>whnf
 refine ⟨by kernel_rfl,?_⟩
 conv=>whnf
 refine ⟨he8a,he8b,Zo he8x ?_⟩
 conv=>whnf
 refine ⟨he8a,he8b,Zo he8x ?_⟩
 conv=>whnf
 refine ⟨by kernel_rfl,?_⟩
 conv=>whnf
 refine ⟨by decide,?_⟩
 conv=>whnf
 refine ⟨he8a,he8b,Zo he8x ?_⟩
 conv=>whnf
 cases h
 exact ⟨⟨rfl,rfl⟩,hI6 _ rfl⟩
 conv=>whnf
 refine Yk h ?_
 rintro I9 μ9 ⟨v1,⟨⟩⟩ zs9 h hI9 hR9
 change Zaz b0 l0 v1=some zs9 at h
 unfold Zaz at h
 conv=>whnf
 refine Zx h (fun h=>?_) (fun h=>?_)
 conv=>whnf
 refine vAt h (fun x0 he10a he10b he10x h=>?_)
 conv=>whnf
 refine ⟨by kernel_rfl,?_⟩
 conv=>whnf
 refine vAt h (fun x1 he11a he11b he11x h=>?_)
 conv=>whnf
 refine ⟨by kernel_rfl,?_⟩
 conv=>whnf
 refine ⟨he11a,he11b,Zo he11x ?_⟩
 conv=>whnf
 refine Zk h (fun IsWire0 hb12 h=>?_)
 conv=>whnf
 refine ⟨trivial,?_⟩
 conv=>whnf
 refine Z5 ?_
 refine YJ h (fun h=>?_) (fun h=>?_)
 conv=>whnf
 cases h
 exact ⟨⟨rfl,rfl⟩,hI9 _ rfl⟩
 conv=>whnf
 cases h
 obtain rfl:=hR9 _ rfl
 obtain rfl:=hR6 _ rfl
 exact hK
 conv=>whnf
 cases h
 obtain rfl:=hR9 _ rfl
 obtain rfl:=hR6 _ rfl
 exact hK
 conv=>whnf
 cases h
 exact hK
 conv=>whnf
 cases h
 exact hK
theorem ZAw:Zc Tryz.prog 208 Zzs:=by
 refine Zg Zq Zj mixed {} (fn:=Tryz.f208) Tryz.func208 (by kernel_rfl) (by kernel_rfl) ?_
 rintro ⟨n0,⟨⟩⟩ K ⟨r,h,hK⟩
 change Zaq n0=some r at h
 unfold Zaq at h
 conv=>whnf
 cases h
 exact hK
theorem ZC7 (q1:Zc Tryz.prog 333 ZyQ) (q0:Zc Tryz.prog 211 Zwk):Zc Tryz.prog 325 Zyw:=by
 refine Zg Zq (Ze q1 (Ze q0 Zj)) mixed {} (fn:=Tryz.f325) Tryz.func325 (by kernel_rfl) (by kernel_rfl) ?_
 rintro ⟨t0,⟨⟩⟩ K ⟨r,h,hK⟩
 change ZdC t0=some r at h
 unfold ZdC at h
 conv=>whnf
 refine Zk h (fun isAxis0 hb0 h=>?_)
 conv=>whnf
 refine YJ h (fun h=>?_) (fun h=>?_)
 conv=>whnf
 refine Zk h (fun isAxis1 hb1 h=>?_)
 conv=>whnf
 refine YJ h (fun h=>?_) (fun h=>?_)
 conv=>whnf
 refine Zx h (fun h=>?_) (fun h=>?_)
 conv=>whnf
 refine Zk h (fun areWithin0 hb2 h=>?_)
 conv=>whnf
 cases h
 exact hK
 conv=>whnf
 cases h
 exact hK
 conv=>whnf
 cases h
 exact hK
 conv=>whnf
 cases h
 exact hK
theorem w89 (q2:Zc Tryz.prog 209 c88) (q1:Zc Tryz.prog 254 ZiF) (q0:Zc Tryz.prog 255 Zfs):Zc Tryz.prog 223 c89:=by
 refine Zg Zq (Ze q2 (Ze q1 (Ze q0 Zj))) mixed {} (fn:=Tryz.f223) Tryz.func223 (by kernel_rfl) (by kernel_rfl) ?_
 rintro ⟨s0,⟨⟩⟩ K ⟨r,h,hK⟩
 change Zb4 s0=some r at h
 unfold Zb4 at h
 conv=>whnf
 refine Zk h (fun within0 hb0 h=>?_)
 conv=>whnf
 refine YJ h (fun h=>?_) (fun h=>?_)
 conv=>whnf
 refine QJ h (fun hp1 h=>?_)
 conv=>whnf
 refine ⟨by decide,?_⟩
 conv=>whnf
 refine ⟨by kernel_rfl,?_⟩
 conv=>whnf
 refine Zx h (fun h=>?_) (fun h=>?_)
 conv=>whnf
 refine vAt h (fun x0 he2a he2b he2x h=>?_)
 conv=>whnf
 cases h
 exact hK
 conv=>whnf
 cases h
 exact hK
 conv=>whnf
 cases h
 exact hK
theorem ZBK:Zc Tryz.prog 188 c157:=by
 refine Zg Zq Zj mixed {} (fn:=Tryz.f188) Tryz.func188 (by kernel_rfl) (by kernel_rfl) ?_
 rintro ⟨list0,⟨⟩⟩ K ⟨r,h,hK⟩
 change Vn list0=some r at h
 unfold Vn at h
 conv=>whnf
 cases h
 exact hK
theorem w88:Zc Tryz.prog 209 c88:=by
 refine Zg Zq Zj mixed {} (fn:=Tryz.f209) Tryz.func209 (by kernel_rfl) (by kernel_rfl) ?_
 rintro ⟨x0,low0,high0,⟨⟩⟩ K ⟨r,h,hK⟩
 change Yo x0 low0 high0=some r at h
 unfold Yo at h
 conv=>whnf
 refine Zx h (fun h=>?_) (fun h=>?_)
 conv=>whnf
 cases h
 exact hK
 conv=>whnf
 cases h
 exact hK
theorem ZAQ (q0:Zc Tryz.prog 24 c203):Zc Tryz.prog 13 Zzx:=by
 refine Zg Zq (Ze q0 Zj) mixed {loops:=[(0,[.reg 5 (.dat (.int .i64))])],draws:=[(6,[0,0,3,7,0,0,48,112,255,511],.op 0 (.op 1 (.op 2 (.op 3 (.op 4 (.op 5 (.op 6 (.op 7 (.alt 8 (.op 9 (.done)) (.done))))))))))]} (fn:=Tryz.f13) Tryz.func13 (by kernel_rfl) (by kernel_rfl) ?_
 rintro ⟨a0,b0,⟨⟩⟩ K ⟨r,h,hK⟩
 change Zdu a0 b0=some r at h
 unfold Zdu at h
 conv=>whnf
 refine Z5 ?_
 refine Zx h (fun h=>?_) (fun h=>?_)
 conv=>whnf
 refine Yk h ?_
 rintro I0 μ0 ⟨i0,⟨⟩⟩ zs0 h hI0 hR0
 change ZdM a0 b0 i0=some zs0 at h
 unfold ZdM at h
 conv=>whnf
 refine Zx h (fun h=>?_) (fun h=>?_)
 conv=>whnf
 refine ⟨by kernel_rfl,?_⟩
 conv=>whnf
 refine vAt h (fun x0 he1a he1b he1x h=>?_)
 conv=>whnf
 refine vAt h (fun x1 he2a he2b he2x h=>?_)
 conv=>whnf
 refine Zk h (fun eqEdit0 hb3 h=>?_)
 conv=>whnf
 refine ⟨trivial,?_⟩
 conv=>whnf
 refine Z5 ?_
 refine YJ h (fun h=>?_) (fun h=>?_)
 conv=>whnf
 cases h
 exact ⟨⟨rfl,rfl⟩,hI0 _ rfl⟩
 conv=>whnf
 cases h
 obtain rfl:=hR0 _ rfl
 exact hK
 conv=>whnf
 cases h
 obtain rfl:=hR0 _ rfl
 exact hK
 conv=>whnf
 cases h
 exact hK
theorem ZBb (q0:Zc Tryz.prog 106 Zx6) (q1:Zc Tryz.prog 107 c226) (q2:Zc Tryz.prog 108 c227):Zc Tryz.prog 51 c228:=by
 refine Zg Zq (Ze q0 (Ze q1 (Ze q2 Zj))) mixed {} (fn:=Tryz.f51) Tryz.func51 (by kernel_rfl) (by kernel_rfl) ?_
 rintro ⟨a0,k0,⟨⟩⟩ K ⟨r,h,hK⟩
 change Za2 a0 k0=some r at h
 unfold Za2 at h
 conv=>whnf
 refine Zk h (fun heldInstanceS0 hb0 h=>?_)
 conv=>whnf
 refine Zx h (fun h=>?_) (fun h=>?_)
 conv=>whnf
 cases h
 exact hK
 conv=>whnf
 refine Zk h (fun heldStringS0 hb1 h=>?_)
 conv=>whnf
 refine Zx h (fun h=>?_) (fun h=>?_)
 conv=>whnf
 cases h
 exact hK
 conv=>whnf
 refine Zk h (fun heldPortS0 hb2 h=>?_)
 conv=>whnf
 refine Zx h (fun h=>?_) (fun h=>?_)
 conv=>whnf
 cases h
 exact hK
 conv=>whnf
 cases h
 exact hK
theorem ZA9 (q1:Zc Tryz.prog 49 ZrR) (q0:Zc Tryz.prog 32 Zwh):Zc Tryz.prog 106 Zx6:=by
 refine Zg Zq (Ze q1 (Ze q0 Zj)) mixed {loops:=[(0,[.reg 1 (.dat (.int .i64)),.reg 5 (.dat (.int .i64))])],draws:=[(4,[0,0,3,7,15,0,32,127],.op 0 (.op 1 (.op 2 (.op 3 (.op 4 (.op 5 (.alt 6 (.op 7 (.done)) (.done))))))))]} (fn:=Tryz.f106) Tryz.func106 (by kernel_rfl) (by kernel_rfl) ?_
 rintro ⟨a0,k0,⟨⟩⟩ K ⟨r,h,hK⟩
 change V6 a0 k0=some r at h
 unfold V6 at h
 conv=>whnf
 refine Yk h ?_
 rintro I0 μ0 ⟨k1,i0,⟨⟩⟩ zs0 h hI0 hR0
 change Xr a0 k1 i0=some zs0 at h
 unfold Xr at h
 conv=>whnf
 refine Zx h (fun h=>?_) (fun h=>?_)
 conv=>whnf
 refine ⟨by kernel_rfl,?_⟩
 conv=>whnf
 refine vAt h (fun x0 he1a he1b he1x h=>?_)
 conv=>whnf
 refine Zk h (fun markText0 hb2 h=>?_)
 conv=>whnf
 refine ⟨trivial,?_⟩
 conv=>whnf
 refine Z5 ?_
 refine Zx h (fun h=>?_) (fun h=>?_)
 conv=>whnf
 refine ⟨he1a,he1b,Zo he1x ?_⟩
 conv=>whnf
 refine Z5 ?_
 refine Zx h (fun h=>?_) (fun h=>?_)
 conv=>whnf
 refine ⟨he1a,he1b,Zo he1x ?_⟩
 conv=>whnf
 refine Zk h (fun heldInt64S0 hb3 h=>?_)
 conv=>whnf
 refine Zx h (fun h=>?_) (fun h=>?_)
 conv=>whnf
 cases h
 obtain rfl:=hR0 _ rfl
 exact hK
 conv=>whnf
 cases h
 exact ⟨⟨rfl,rfl⟩,hI0 _ rfl⟩
 conv=>whnf
 cases h
 obtain rfl:=hR0 _ rfl
 exact hK
 conv=>whnf
 cases h
 obtain rfl:=hR0 _ rfl
 exact hK
 conv=>whnf
 cases h
 obtain rfl:=hR0 _ rfl
 exact hK
theorem ZAF (q0:Zc Tryz.prog 49 ZrR):Zc Tryz.prog 107 c226:=by
 refine Zg Zq (Ze q0 Zj) mixed {loops:=[(0,[.reg 1 (.dat (.int .i64)),.reg 5 (.dat (.int .i64))])],draws:=[(4,[0,0,3,7,0,16,63],.op 0 (.op 1 (.op 2 (.op 3 (.op 4 (.alt 5 (.op 6 (.done)) (.done)))))))]} (fn:=Tryz.f107) Tryz.func107 (by kernel_rfl) (by kernel_rfl) ?_
 rintro ⟨a0,k0,⟨⟩⟩ K ⟨r,h,hK⟩
 change Zal a0 k0=some r at h
 unfold Zal at h
 conv=>whnf
 refine Yk h ?_
 rintro I0 μ0 ⟨k1,i0,⟨⟩⟩ zs0 h hI0 hR0
 change XY a0 k1 i0=some zs0 at h
 unfold XY at h
 conv=>whnf
 refine Zx h (fun h=>?_) (fun h=>?_)
 conv=>whnf
 refine ⟨by kernel_rfl,?_⟩
 conv=>whnf
 refine vAt h (fun x0 he1a he1b he1x h=>?_)
 conv=>whnf
 refine Zk h (fun markText0 hb2 h=>?_)
 conv=>whnf
 refine ⟨trivial,?_⟩
 conv=>whnf
 refine Z5 ?_
 refine Zx h (fun h=>?_) (fun h=>?_)
 conv=>whnf
 cases h
 exact ⟨⟨rfl,rfl⟩,hI0 _ rfl⟩
 conv=>whnf
 cases h
 obtain rfl:=hR0 _ rfl
 exact hK
 conv=>whnf
 cases h
 obtain rfl:=hR0 _ rfl
 exact hK
theorem ZAg (q0:Zc Tryz.prog 49 ZrR):Zc Tryz.prog 104 Zx0:=by
 refine Zg YQ (Ze q0 Zj) mixed {loops:=[(0,[.reg 1 (.dat (.int .i64)),.reg 5 (.dat (.int .i64)),.ent 0 (nat_lit 201) (.flat Xa)])]} (fn:=Tryz.f104) Tryz.func104 (by kernel_rfl) (by kernel_rfl) ?_
 rintro ⟨a0,k0,⟨⟩⟩ K ⟨r,h,hK⟩
 change Jz a0 k0=some r at h
 unfold Jz at h
 conv=>whnf
 refine Yk h ?_
 rintro I0 μ0 ⟨k1,i0,l0,⟨⟩⟩ zs0 h hI0 hR0
 change XM k1 i0 l0=some zs0 at h
 unfold XM at h
 conv=>whnf
 refine Zx h (fun h=>?_) (fun h=>?_)
 conv=>whnf
 refine Zk h (fun markText0 hb1 h=>?_)
 conv=>whnf
 refine vAt h (fun x0 he2a he2b he2x h=>?_)
 conv=>whnf
 refine ⟨by kernel_rfl,?_⟩
 conv=>whnf
 refine ⟨by decide,?_⟩
 conv=>whnf
 refine ⟨he2a,he2b,Zo he2x ?_⟩
 conv=>whnf
 refine vAt h (fun x1 he3a he3b he3x h=>?_)
 conv=>whnf
 refine ⟨by kernel_rfl,?_⟩
 conv=>whnf
 refine ⟨by decide,?_⟩
 conv=>whnf
 refine ⟨he3a,he3b,Zo he3x ?_⟩
 conv=>whnf
 refine vAt h (fun x2 he4a he4b he4x h=>?_)
 conv=>whnf
 refine ⟨by kernel_rfl,?_⟩
 conv=>whnf
 refine ⟨by decide,?_⟩
 conv=>whnf
 refine ⟨he4a,he4b,Zo he4x ?_⟩
 conv=>whnf
 cases h
 exact ⟨⟨rfl,rfl⟩,hI0 _ rfl⟩
 conv=>whnf
 cases h
 obtain rfl:=hR0 _ rfl
 exact hK
theorem ZDt (q0:Zc Tryz.prog 31 Zv9):Zc Tryz.prog 48 ZyB:=by
 refine Zg YQ (Ze q0 Zj) mixed {loops:=[(0,[.reg 1 (.dat (.int .i64)),.reg 5 (.dat (.int .i64)),.ent 0 (nat_lit 72) (Dp.pair (Dp.ol (2:Go.TypeId) (Dp.flat (Ty.int IntKind.i64))) (Dp.pair (Dp.ol (2:Go.TypeId) (Dp.flat (Ty.int IntKind.i64))) (Dp.pair (Dp.ol (2:Go.TypeId) (Dp.flat (Ty.int IntKind.i64))) (Dp.pair (Dp.ol (2:Go.TypeId) (Dp.flat (Ty.int IntKind.i64))) (Dp.flat Ty.unit)))))])]} (fn:=Tryz.f48) Tryz.func48 (by kernel_rfl) (by kernel_rfl) ?_
 rintro ⟨a0,k0,⟨⟩⟩ K ⟨r,h,hK⟩
 change Jt a0 k0=some r at h
 unfold Jt at h
 conv=>whnf
 intro fp0
 conv=>whnf
 refine Yk h ?_
 rintro I1 μ1 ⟨k1,i0,l0,⟨⟩⟩ zs1 h hI1 hR1
 change XR k1 i0 l0=some zs1 at h
 unfold XR at h
 conv=>whnf
 intro fp2
 conv=>whnf
 refine Zx h (fun h=>?_) (fun h=>?_)
 conv=>whnf
 refine vAt h (fun x0 he3a he3b he3x h=>?_)
 conv=>whnf
 refine ⟨he3a,he3b,Zo he3x ?_⟩
 conv=>whnf
 intro fp4
 conv=>whnf
 refine Zk h (fun markInt64S0 hb5 h=>?_)
 conv=>whnf
 refine ⟨he3a,he3b,Zo he3x ?_⟩
 conv=>whnf
 refine .inl ⟨rfl,?_⟩
 conv=>whnf
 refine Zk h (fun markInt64S1 hb6 h=>?_)
 conv=>whnf
 refine ⟨he3a,he3b,Zo he3x ?_⟩
 conv=>whnf
 refine .inl ⟨rfl,?_⟩
 conv=>whnf
 refine Zk h (fun markInt64S2 hb7 h=>?_)
 conv=>whnf
 refine ⟨he3a,he3b,Zo he3x ?_⟩
 conv=>whnf
 refine .inl ⟨rfl,?_⟩
 conv=>whnf
 refine Zk h (fun markInt64S3 hb8 h=>?_)
 conv=>whnf
 cases h
 exact ⟨⟨rfl,rfl⟩,hI1 _ rfl⟩
 conv=>whnf
 cases h
 obtain rfl:=hR1 _ rfl
 exact hK
theorem w8 (q0:Zc Tryz.prog 138 c7):Zc Tryz.prog 76 c8:=by
 refine Zg Zq (Ze q0 Zj) mixed {loops:=[(0,[.reg 1 (.dat (.int .i64)),.reg 5 (.dat (.int .i64))])]} (fn:=Tryz.f76) Tryz.func76 (by kernel_rfl) (by kernel_rfl) ?_
 rintro ⟨a0,left0,⟨⟩⟩ K ⟨r,h,hK⟩
 change Zbi a0 left0=some r at h
 unfold Zbi at h
 conv=>whnf
 refine Zx h (fun h=>?_) (fun h=>?_)
 conv=>whnf
 cases h
 exact hK
 conv=>whnf
 refine Yk h ?_
 rintro I0 μ0 ⟨left1,i0,⟨⟩⟩ zs0 h hI0 hR0
 change Zd3 a0 left1 i0=some zs0 at h
 unfold Zd3 at h
 conv=>whnf
 refine Zx h (fun h=>?_) (fun h=>?_)
 conv=>whnf
 refine vAt h (fun x0 he1a he1b he1x h=>?_)
 conv=>whnf
 refine Zk h (fun szCell0 hb2 h=>?_)
 conv=>whnf
 refine Zx h (fun h=>?_) (fun h=>?_)
 conv=>whnf
 cases h
 obtain rfl:=hR0 _ rfl
 exact hK
 conv=>whnf
 cases h
 exact ⟨⟨rfl,rfl⟩,hI0 _ rfl⟩
 conv=>whnf
 cases h
 obtain rfl:=hR0 _ rfl
 exact hK
theorem w19 (q0:Zc Tryz.prog 53 c16):Zc Tryz.prog 17 c19:=by
 refine Zg Zq (Ze q0 Zj) mixed {} (fn:=Tryz.f17) Tryz.func17 (by kernel_rfl) (by kernel_rfl) ?_
 rintro ⟨a0,left0,⟨⟩⟩ K ⟨r,h,hK⟩
 change ZaP a0 left0=some r at h
 unfold ZaP at h
 conv=>whnf
 refine Zx h (fun h=>?_) (fun h=>?_)
 conv=>whnf
 cases h
 exact hK
 conv=>whnf
 refine Zk h (fun szWire0 hb0 h=>?_)
 conv=>whnf
 refine Zx h (fun h=>?_) (fun h=>?_)
 conv=>whnf
 cases h
 exact hK
 conv=>whnf
 cases h
 exact hK
theorem w13:Zc Tryz.prog 140 c13:=by
 refine Zg Zq Zj mixed {} (fn:=Tryz.f140) Tryz.func140 (by kernel_rfl) (by kernel_rfl) ?_
 rintro ⟨a0,left0,⟨⟩⟩ K ⟨r,h,hK⟩
 change ZaO a0 left0=some r at h
 unfold ZaO at h
 conv=>whnf
 refine Zx h (fun h=>?_) (fun h=>?_)
 conv=>whnf
 cases h
 exact hK
 conv=>whnf
 cases h
 exact hK
theorem w26 (q0:Zc Tryz.prog 274 c25):Zc Tryz.prog 244 c26:=by
 refine Zg YQ (Ze q0 Zj) mixed {} (fn:=Tryz.f244) Tryz.func244 (by kernel_rfl) (by kernel_rfl) ?_
 rintro ⟨a0,⟨⟩⟩ K ⟨r,h,hK⟩
 change ZeM a0=some r at h
 unfold ZeM at h
 conv=>whnf
 refine Zk h (fun toTableS0 hb0 h=>?_)
 conv=>whnf
 intro fp1
 conv=>whnf
 refine Zk h (fun toTableS1 hb2 h=>?_)
 conv=>whnf
 intro fp3
 conv=>whnf
 cases h
 exact hK
theorem w27 (q0:Zc Tryz.prog 244 c26):Zc Tryz.prog 202 c27:=by
 refine Zg YQ (Ze q0 Zj) mixed {loops:=[(0,[.reg 4 (.dat (.int .i64)),.ent 0 (nat_lit 235) Zrh])]} (fn:=Tryz.f202) Tryz.func202 (by kernel_rfl) (by kernel_rfl) ?_
 rintro ⟨a0,⟨⟩⟩ K ⟨r,h,hK⟩
 change Zes a0=some r at h
 unfold Zes at h
 conv=>whnf
 refine QJ h (fun hp0 h=>?_)
 conv=>whnf
 refine QJ h (fun hp1 h=>?_)
 conv=>whnf
 refine QJ h (fun hp2 h=>?_)
 conv=>whnf
 refine QJ h (fun hp3 h=>?_)
 conv=>whnf
 intro fp4
 conv=>whnf
 refine Yk h ?_
 rintro I5 μ5 ⟨i0,l0,⟨⟩⟩ zs5 h hI5 hR5
 change ZeJ a0 i0 l0=some zs5 at h
 unfold ZeJ at h
 conv=>whnf
 intro fp6
 conv=>whnf
 refine Zx h (fun h=>?_) (fun h=>?_)
 conv=>whnf
 refine vAt h (fun x0 he7a he7b he7x h=>?_)
 conv=>whnf
 refine Zk h (fun toArc0 hb8 h=>?_)
 conv=>whnf
 intro fp9
 conv=>whnf
 intro fp10
 conv=>whnf
 refine vAt h (fun x1 he11a he11b he11x h=>?_)
 conv=>whnf
 refine ⟨he11a,he11b,Zo he11x ?_⟩
 conv=>whnf
 intro fp12
 conv=>whnf
 intro fp13
 conv=>whnf
 intro fp14
 conv=>whnf
 cases h
 exact ⟨⟨rfl,rfl⟩,hI5 _ rfl⟩
 conv=>whnf
 cases h
 obtain rfl:=hR5 _ rfl
 exact hK
theorem w33:Zc Tryz.prog 89 c33:=by
 refine Zg Zq Zj mixed {loops:=[(0,[.reg 4 (.dat (.int .i64)),.ent 0 (nat_lit 9) (.flat ZwO.ety)])]} (fn:=Tryz.f89) Tryz.func89 (by kernel_rfl) (by kernel_rfl) ?_
 rintro ⟨a0,⟨⟩⟩ K ⟨r,h,hK⟩
 change ZbP a0=some r at h
 unfold ZbP at h
 conv=>whnf
 refine QJ h (fun hp0 h=>?_)
 conv=>whnf
 refine QJ h (fun hp1 h=>?_)
 conv=>whnf
 refine QJ h (fun hp2 h=>?_)
 conv=>whnf
 refine QJ h (fun hp3 h=>?_)
 conv=>whnf
 refine Yk h ?_
 rintro I4 μ4 ⟨i0,l0,⟨⟩⟩ zs4 h hI4 hR4
 change ZcO a0 i0 l0=some zs4 at h
 unfold ZcO at h
 conv=>whnf
 refine Zx h (fun h=>?_) (fun h=>?_)
 conv=>whnf
 refine vAt h (fun x0 he5a he5b he5x h=>?_)
 conv=>whnf
 refine vAt h (fun x1 he6a he6b he6x h=>?_)
 conv=>whnf
 refine ⟨by kernel_rfl,?_⟩
 conv=>whnf
 refine ⟨by decide,?_⟩
 conv=>whnf
 refine ⟨he6a,he6b,Zo he6x ?_⟩
 conv=>whnf
 cases h
 exact ⟨⟨rfl,rfl⟩,hI4 _ rfl⟩
 conv=>whnf
 cases h
 obtain rfl:=hR4 _ rfl
 exact hK
theorem ZBT:Zc Tryz.prog 212 Zy3:=by
 refine Zg Zq Zj mixed {} (fn:=Tryz.f212) Tryz.func212 (by kernel_rfl) (by kernel_rfl) ?_
 rintro ⟨s0,⟨⟩⟩ K ⟨r,h,hK⟩
 change YZ s0=some r at h
 unfold YZ at h
 conv=>whnf
 refine ⟨fun hd=>?_,?_⟩
 have h:=ZrV (T:=(some ([]:List Yv))) h (by simp [hd,Zz])
 conv=>whnf
 cases h
 exact hK
 conv=>whnf
 refine QJ h (fun hp0 h=>?_)
 conv=>whnf
 cases h
 exact hK
theorem ZA7:Zc Tryz.prog 184 c143:=by
 refine Zg Zq Zj mixed {} (fn:=Tryz.f184) Tryz.func184 (by kernel_rfl) (by kernel_rfl) ?_
 rintro ⟨s0,⟨⟩⟩ K ⟨r,h,hK⟩
 change Z7 s0=some r at h
 unfold Z7 at h
 conv=>whnf
 refine ⟨fun hd=>?_,?_⟩
 have h:=ZrV (T:=(some ([]:List Int))) h (by simp [hd,Zz])
 conv=>whnf
 cases h
 exact hK
 conv=>whnf
 refine QJ h (fun hp0 h=>?_)
 conv=>whnf
 cases h
 exact hK
theorem ZDn (q0:Zc Tryz.prog 279 c131):Zc Tryz.prog 247 ZxP:=by
 refine Zg Zq (Ze q0 Zj) mixed {} (fn:=Tryz.f247) Tryz.func247 (by kernel_rfl) (by kernel_rfl) ?_
 rintro ⟨s0,f0,⟨⟩⟩ K ⟨r,h,hK⟩
 change ZJ s0 f0=some r at h
 unfold ZJ at h
 conv=>whnf
 refine Zk h (fun c1_0 hb0 h=>?_)
 conv=>whnf
 cases h
 exact hK
theorem ZBV (q0:Zc Tryz.prog 253 c159):Zc Tryz.prog 252 c160:=by
 refine Zg Zq (Ze q0 Zj) mixed {loops:=[(0,[.reg 17 (.dat (.int .i64))])]} (fn:=Tryz.f252) Tryz.func252 (by kernel_rfl) (by kernel_rfl) ?_
 rintro ⟨s1_0,s2_0,eq0,⟨⟩⟩ K ⟨r,h,hK⟩
 change ZE s1_0 s2_0 eq0=some r at h
 unfold ZE at h
 conv=>whnf
 refine Z5 ?_
 refine Zx h (fun h=>?_) (fun h=>?_)
 conv=>whnf
 refine Yk h ?_
 rintro I0 μ0 ⟨v0,⟨⟩⟩ zs0 h hI0 hR0
 change Zv s1_0 s2_0 v0=some zs0 at h
 unfold Zv at h
 conv=>whnf
 refine Zx h (fun h=>?_) (fun h=>?_)
 conv=>whnf
 refine vAt h (fun x0 he1a he1b he1x h=>?_)
 conv=>whnf
 refine vAt h (fun x1 he2a he2b he2x h=>?_)
 conv=>whnf
 refine Zk h (fun c1_0 hb3 h=>?_)
 conv=>whnf
 refine Z5 ?_
 refine YJ h (fun h=>?_) (fun h=>?_)
 conv=>whnf
 cases h
 exact ⟨⟨rfl,rfl⟩,hI0 _ rfl⟩
 conv=>whnf
 cases h
 obtain rfl:=hR0 _ rfl
 exact hK
 conv=>whnf
 cases h
 obtain rfl:=hR0 _ rfl
 exact hK
 conv=>whnf
 cases h
 exact hK
theorem ZCa (q0:Zc Tryz.prog 228 c175):Zc Tryz.prog 227 Zx5:=by
 refine Zg Zq (Ze q0 Zj) mixed {loops:=[(0,[.reg 8 (.dat (.int .i64))])]} (fn:=Tryz.f227) Tryz.func227 (by kernel_rfl) (by kernel_rfl) ?_
 rintro ⟨s0,f0,⟨⟩⟩ K ⟨r,h,hK⟩
 change ZC s0 f0=some r at h
 unfold ZC at h
 conv=>whnf
 refine Yk h ?_
 rintro I0 μ0 ⟨v0,⟨⟩⟩ zs0 h hI0 hR0
 change ZH s0 f0 v0=some zs0 at h
 unfold ZH at h
 conv=>whnf
 refine Zx h (fun h=>?_) (fun h=>?_)
 conv=>whnf
 refine vAt h (fun x0 he1a he1b he1x h=>?_)
 conv=>whnf
 refine Zk h (fun c1_0 hb2 h=>?_)
 conv=>whnf
 refine YJ h (fun h=>?_) (fun h=>?_)
 conv=>whnf
 cases h
 obtain rfl:=hR0 _ rfl
 exact hK
 conv=>whnf
 cases h
 exact ⟨⟨rfl,rfl⟩,hI0 _ rfl⟩
 conv=>whnf
 cases h
 obtain rfl:=hR0 _ rfl
 exact hK
theorem w98 (q0:Zc Tryz.prog 250 c97):Zc Tryz.prog 279 c98:=by
 refine Zg Zq (Ze q0 Zj) mixed {loops:=[(0,[.reg 8 (.dat (.int .i64))])]} (fn:=Tryz.f279) Tryz.func279 (by kernel_rfl) (by kernel_rfl) ?_
 rintro ⟨s0,f0,⟨⟩⟩ K ⟨r,h,hK⟩
 change Z8 s0 f0=some r at h
 unfold Z8 at h
 conv=>whnf
 refine Yk h ?_
 rintro I0 μ0 ⟨v0,⟨⟩⟩ zs0 h hI0 hR0
 change Yb s0 f0 v0=some zs0 at h
 unfold Yb at h
 conv=>whnf
 refine Zx h (fun h=>?_) (fun h=>?_)
 conv=>whnf
 refine vAt h (fun x0 he1a he1b he1x h=>?_)
 conv=>whnf
 refine Zk h (fun c1_0 hb2 h=>?_)
 conv=>whnf
 refine YJ h (fun h=>?_) (fun h=>?_)
 conv=>whnf
 cases h
 obtain rfl:=hR0 _ rfl
 exact hK
 conv=>whnf
 cases h
 exact ⟨⟨rfl,rfl⟩,hI0 _ rfl⟩
 conv=>whnf
 cases h
 obtain rfl:=hR0 _ rfl
 exact hK
theorem w91:Zc Tryz.prog 258 c91:=by
 refine Zg Zq Zj mixed {loops:=[(0,[.reg 8 (.dat (.int .i64))])]} (fn:=Tryz.f258) Tryz.func258 (by kernel_rfl) (by kernel_rfl) ?_
 rintro ⟨s0,v0,⟨⟩⟩ K ⟨r,h,hK⟩
 change Yp s0 v0=some r at h
 unfold Yp at h
 conv=>whnf
 refine Yk h ?_
 rintro I0 μ0 ⟨v1,⟨⟩⟩ zs0 h hI0 hR0
 change Yq s0 v0 v1=some zs0 at h
 unfold Yq at h
 conv=>whnf
 refine Zx h (fun h=>?_) (fun h=>?_)
 conv=>whnf
 refine vAt h (fun x0 he1a he1b he1x h=>?_)
 conv=>whnf
 refine Zx h (fun h=>?_) (fun h=>?_)
 conv=>whnf
 cases h
 obtain rfl:=hR0 _ rfl
 exact hK
 conv=>whnf
 cases h
 exact ⟨⟨rfl,rfl⟩,hI0 _ rfl⟩
 conv=>whnf
 cases h
 obtain rfl:=hR0 _ rfl
 exact hK
theorem w86 (q0:Zc Tryz.prog 56 c78) (q1:Zc Tryz.prog 86 c85):Zc Tryz.prog 38 c86:=by
 refine Zg YQ (Ze q0 (Ze q1 Zj)) mixed {} (fn:=Tryz.f38) Tryz.func38 (by kernel_rfl) (by kernel_rfl) ?_
 rintro ⟨b0,e0,⟨⟩⟩ K ⟨r,h,hK⟩
 change QM b0 e0=some r at h
 unfold QM at h
 conv=>whnf
 refine Zk h (fun EditCode0 hb0 h=>?_)
 conv=>whnf
 refine Z5 ?_
 refine Zx h (fun h=>?_) (fun h=>?_)
 conv=>whnf
 refine Zk h (fun l08Apply0 hb1 h=>?_)
 conv=>whnf
 intro fp2
 conv=>whnf
 intro fp3
 conv=>whnf
 intro fp4
 conv=>whnf
 cases h
 exact hK
 conv=>whnf
 cases h
 exact hK
theorem w55 (q0:Zc Tryz.prog 141 c52) (q1:Zc Tryz.prog 142 c53) (q2:Zc Tryz.prog 143 c54):Zc Tryz.prog 80 c55:=by
 refine Zg Zq (Ze q0 (Ze q1 (Ze q2 Zj))) mixed {loops:=[(0,[.reg 5 (.own (.ol 9 (.flat (.str)))),.reg 6 (.dat (.int .i64))]),(2,[.reg 7 (.own (.ol 9 (.flat (.str)))),.reg 8 (.dat (.int .i64))]),(4,[.reg 10 (.dat (.int .i64)),.ent 6 (nat_lit 2) (.flat Ztr.ety)]),(6,[.reg 12 (.dat (.int .i64)),.ent 6 (nat_lit 2) (.flat Ztr.ety)]),(8,[.reg 13 (.dat (.int .i64))])]} (fn:=Tryz.f80) Tryz.func80 (by kernel_rfl) (by kernel_rfl) ?_
 rintro ⟨a0,a1,⟨⟩⟩ K ⟨r,h,hK⟩
 change Zcv a0 a1=some r at h
 unfold Zcv at h
 conv=>whnf
 refine Zk h (fun IsLibrary0 hb0 h=>?_)
 conv=>whnf
 refine Ze5 ?_
 refine YJ h (fun h=>?_) (fun h=>?_)
 conv=>whnf
 refine ZlH h (fun h=>?_) (fun h=>?_)
 conv=>whnf
 cases h
 exact hK
 conv=>whnf
 refine ZlH h (fun h=>?_) (fun h=>?_)
 conv=>whnf
 cases h
 exact hK
 conv=>whnf
 refine ZlH h (fun h=>?_) (fun h=>?_)
 conv=>whnf
 cases h
 exact hK
 conv=>whnf
 refine Zk h (fun l05Parts0 hb1 h=>?_)
 conv=>whnf
 refine Z5 ?_
 refine YJ h (fun h=>?_) (fun h=>?_)
 conv=>whnf
 refine Yk h ?_
 rintro I2 μ2 ⟨v0,v1,⟨⟩⟩ zs2 h hI2 hR2
 change JX a1 v0 v1=some zs2 at h
 unfold JX at h
 conv=>whnf
 refine Zx h (fun h=>?_) (fun h=>?_)
 conv=>whnf
 refine vAt h (fun x0 he3a he3b he3x h=>?_)
 conv=>whnf
 refine QJ h (fun hp4 h=>?_)
 conv=>whnf
 cases h
 exact ⟨⟨rfl,rfl⟩,hI2 _ rfl⟩
 conv=>whnf
 refine Yk h ?_
 rintro I5 μ5 ⟨v2,v3,⟨⟩⟩ zs5 h hI5 hR5
 change JO a1 v0 v2 v3=some zs5 at h
 unfold JO at h
 conv=>whnf
 refine Zx h (fun h=>?_) (fun h=>?_)
 conv=>whnf
 refine vAt h (fun x0 he6a he6b he6x h=>?_)
 conv=>whnf
 refine QJ h (fun hp7 h=>?_)
 conv=>whnf
 cases h
 exact ⟨⟨rfl,rfl⟩,hI5 _ rfl⟩
 conv=>whnf
 refine Zk h (fun l05Names0 hb8 h=>?_)
 conv=>whnf
 refine Ze5 ?_
 refine YJ h (fun h=>?_) (fun h=>?_)
 conv=>whnf
 refine Zk h (fun l05Names1 hb9 h=>?_)
 conv=>whnf
 refine Ze5 ?_
 refine YJ h (fun h=>?_) (fun h=>?_)
 conv=>whnf
 refine Zk h (fun l05Names2 hb10 h=>?_)
 conv=>whnf
 refine Z5 ?_
 refine YJ h (fun h=>?_) (fun h=>?_)
 conv=>whnf
 refine QJ h (fun hp11 h=>?_)
 conv=>whnf
 refine QJ h (fun hp12 h=>?_)
 conv=>whnf
 refine QJ h (fun hp13 h=>?_)
 conv=>whnf
 refine QJ h (fun hp14 h=>?_)
 conv=>whnf
 refine Yk h ?_
 rintro I15 μ15 ⟨v4,l0,⟨⟩⟩ zs15 h hI15 hR15
 change Ql a1 v4 l0=some zs15 at h
 unfold Ql at h
 conv=>whnf
 refine Zx h (fun h=>?_) (fun h=>?_)
 conv=>whnf
 refine vAt h (fun x0 he16a he16b he16x h=>?_)
 conv=>whnf
 refine vAt h (fun x1 he17a he17b he17x h=>?_)
 conv=>whnf
 refine vAt h (fun x2 he18a he18b he18x h=>?_)
 conv=>whnf
 refine ⟨by kernel_rfl,?_⟩
 conv=>whnf
 refine ⟨he18a,he18b,Zo he18x ?_⟩
 conv=>whnf
 refine ⟨he18a,he18b,Zo he18x ?_⟩
 conv=>whnf
 refine ⟨by kernel_rfl,?_⟩
 conv=>whnf
 refine ⟨by decide,?_⟩
 conv=>whnf
 refine ⟨he18a,he18b,Zo he18x ?_⟩
 conv=>whnf
 cases h
 exact ⟨⟨rfl,rfl⟩,hI15 _ rfl⟩
 conv=>whnf
 refine Yk h ?_
 rintro I19 μ19 ⟨v5,l1,⟨⟩⟩ zs19 h hI19 hR19
 change Qm a1 v5 l1=some zs19 at h
 unfold Qm at h
 conv=>whnf
 refine Zx h (fun h=>?_) (fun h=>?_)
 conv=>whnf
 refine vAt h (fun x0 he20a he20b he20x h=>?_)
 conv=>whnf
 refine Zx h (fun h=>?_) (fun h=>?_)
 conv=>whnf
 refine ⟨he20a,he20b,Zo he20x ?_⟩
 conv=>whnf
 refine vAt h (fun x1 he21a he21b he21x h=>?_)
 conv=>whnf
 refine ⟨by kernel_rfl,?_⟩
 conv=>whnf
 refine ⟨he21a,he21b,Zo he21x ?_⟩
 conv=>whnf
 refine ⟨he21a,he21b,Zo he21x ?_⟩
 conv=>whnf
 refine ⟨by kernel_rfl,?_⟩
 conv=>whnf
 refine ⟨by decide,?_⟩
 conv=>whnf
 refine ⟨he21a,he21b,Zo he21x ?_⟩
 conv=>whnf
 cases h
 exact ⟨⟨rfl,rfl⟩,hI19 _ rfl⟩
 conv=>whnf
 cases h
 exact ⟨⟨rfl,rfl⟩,hI19 _ rfl⟩
 conv=>whnf
 refine Yk h ?_
 rintro I22 μ22 ⟨v6,⟨⟩⟩ zs22 h hI22 hR22
 change Zac l1 v6=some zs22 at h
 unfold Zac at h
 conv=>whnf
 refine Zx h (fun h=>?_) (fun h=>?_)
 conv=>whnf
 refine vAt h (fun x0 he23a he23b he23x h=>?_)
 conv=>whnf
 refine ⟨by kernel_rfl,?_⟩
 conv=>whnf
 refine ⟨he23a,he23b,Zo he23x ?_⟩
 conv=>whnf
 refine Z5 ?_
 refine Zx h (fun h=>?_) (fun h=>?_)
 conv=>whnf
 cases h
 exact ⟨⟨rfl,rfl⟩,hI22 _ rfl⟩
 conv=>whnf
 cases h
 obtain rfl:=hR22 _ rfl
 obtain rfl:=hR19 _ rfl
 obtain rfl:=hR15 _ rfl
 obtain rfl:=hR5 _ rfl
 obtain rfl:=hR2 _ rfl
 exact hK
 conv=>whnf
 cases h
 obtain rfl:=hR22 _ rfl
 obtain rfl:=hR19 _ rfl
 obtain rfl:=hR15 _ rfl
 obtain rfl:=hR5 _ rfl
 obtain rfl:=hR2 _ rfl
 exact hK
 conv=>whnf
 cases h
 obtain rfl:=hR5 _ rfl
 obtain rfl:=hR2 _ rfl
 exact hK
 conv=>whnf
 cases h
 obtain rfl:=hR5 _ rfl
 obtain rfl:=hR2 _ rfl
 exact hK
 conv=>whnf
 cases h
 obtain rfl:=hR5 _ rfl
 obtain rfl:=hR2 _ rfl
 exact hK
 conv=>whnf
 cases h
 exact hK
 conv=>whnf
 cases h
 exact hK
theorem w52 (q0:Zc Tryz.prog 198 c51):Zc Tryz.prog 141 c52:=by
 refine Zg Zq (Ze q0 Zj) mixed {loops:=[(0,[.reg 3 (.dat (.int .i64))]),(2,[.reg 4 (.dat (.int .i64))])],draws:=[(9,[0,1,0,7,15,31,0,64,0,448,960,1984,4095],.op 0 (.op 1 (.op 2 (.op 3 (.op 4 (.op 5 (.op 6 (.op 7 (.op 8 (.op 9 (.op 10 (.op 11 (.op 12 (.done))))))))))))))]} (fn:=Tryz.f141) Tryz.func141 (by kernel_rfl) (by kernel_rfl) ?_
 rintro ⟨l0,⟨⟩⟩ K ⟨r,h,hK⟩
 change ZbU l0=some r at h
 unfold ZbU at h
 conv=>whnf
 refine Yk h ?_
 rintro I0 μ0 ⟨i0,⟨⟩⟩ zs0 h hI0 hR0
 change Jg l0 i0=some zs0 at h
 unfold Jg at h
 conv=>whnf
 refine Zx h (fun h=>?_) (fun h=>?_)
 conv=>whnf
 refine vAt h (fun x0 he1a he1b he1x h=>?_)
 conv=>whnf
 refine Zk h (fun IsCell0 hb2 h=>?_)
 conv=>whnf
 refine Z5 ?_
 refine YJ h (fun h=>?_) (fun h=>?_)
 conv=>whnf
 refine Yk h ?_
 rintro I3 μ3 ⟨k0,⟨⟩⟩ zs3 h hI3 hR3
 change Jh l0 i0 x0 k0=some zs3 at h
 unfold Jh at h
 conv=>whnf
 refine Zx h (fun h=>?_) (fun h=>?_)
 conv=>whnf
 refine ⟨by kernel_rfl,?_⟩
 conv=>whnf
 refine vAt h (fun x1 he4a he4b he4x h=>?_)
 conv=>whnf
 refine ⟨he1a,he1b,Zo he1x ?_⟩
 conv=>whnf
 refine ⟨trivial,?_⟩
 conv=>whnf
 refine Zx h (fun h=>?_) (fun h=>?_)
 conv=>whnf
 cases h
 obtain rfl:=hR3 _ rfl
 obtain rfl:=hR0 _ rfl
 exact hK
 conv=>whnf
 cases h
 exact ⟨⟨rfl,rfl⟩,hI3 _ rfl⟩
 conv=>whnf
 cases h
 obtain rfl:=hR3 _ rfl
 exact ⟨⟨rfl,rfl⟩,hI0 _ rfl⟩
 conv=>whnf
 cases h
 obtain rfl:=hR0 _ rfl
 exact hK
 conv=>whnf
 cases h
 obtain rfl:=hR0 _ rfl
 exact hK
theorem w61 (q0:Zc Tryz.prog 146 c60):Zc Tryz.prog 242 c61:=by
 refine Zg Zq (Ze q0 Zj) mixed {draws:=[(1,[0,1,3,0,8,31,0,64,255,511,1023],.op 0 (.op 1 (.op 3 (.op 4 (.op 6 (.op 7 (.alt 2 (.alt 5 (.alt 8 (.op 9 (.alt 10 (.done) (.done))) (.done)) (.done)) (.done))))))))]} (fn:=Tryz.f242) Tryz.func242 (by kernel_rfl) (by kernel_rfl) ?_
 rintro ⟨t0,⟨⟩⟩ K ⟨r,h,hK⟩
 change ZeB t0=some r at h
 unfold ZeB at h
 conv=>whnf
 refine ⟨by kernel_rfl,?_⟩
 conv=>whnf
 refine Zk h (fun l02Ints0 hb0 h=>?_)
 conv=>whnf
 refine Zk h (fun l02Ints1 hb1 h=>?_)
 conv=>whnf
 refine Zk h (fun l02Ints2 hb2 h=>?_)
 conv=>whnf
 refine ⟨trivial,?_⟩
 conv=>whnf
 cases h
 exact hK
theorem w48 (q0:Zc Tryz.prog 297 c47):Zc Tryz.prog 273 c48:=by
 refine Zg Zq (Ze q0 Zj) mixed {loops:=[(0,[.reg 5 (.dat (.int .i64))])]} (fn:=Tryz.f273) Tryz.func273 (by kernel_rfl) (by kernel_rfl) ?_
 rintro ⟨list0,positive0,⟨⟩⟩ K ⟨r,h,hK⟩
 change Yz list0 positive0=some r at h
 unfold Yz at h
 conv=>whnf
 refine Z5 ?_
 refine Zx h (fun h=>?_) (fun h=>?_)
 conv=>whnf
 refine Yk h ?_
 rintro I0 μ0 ⟨i0,⟨⟩⟩ zs0 h hI0 hR0
 change Jm list0 positive0 i0=some zs0 at h
 unfold Jm at h
 conv=>whnf
 refine Zx h (fun h=>?_) (fun h=>?_)
 conv=>whnf
 refine vAt h (fun x0 he1a he1b he1x h=>?_)
 conv=>whnf
 refine Zk h (fun TableBounds0 hb2 h=>?_)
 conv=>whnf
 refine Ze5 ?_
 refine Zx h (fun h=>?_) (fun h=>?_)
 conv=>whnf
 refine YJ h (fun h=>?_) (fun h=>?_)
 conv=>whnf
 refine Zx h (fun h=>?_) (fun h=>?_)
 conv=>whnf
 cases h
 obtain rfl:=hR0 _ rfl
 exact hK
 conv=>whnf
 cases h
 exact ⟨⟨rfl,rfl⟩,hI0 _ rfl⟩
 conv=>whnf
 cases h
 exact ⟨⟨rfl,rfl⟩,hI0 _ rfl⟩
 conv=>whnf
 cases h
 obtain rfl:=hR0 _ rfl
 exact hK
 conv=>whnf
 cases h
 obtain rfl:=hR0 _ rfl
 exact hK
 conv=>whnf
 cases h
 exact hK
theorem w65 (q0:Zc Tryz.prog 146 c60):Zc Tryz.prog 84 c65:=by
 refine Zg YQ (Ze q0 Zj) mixed {loops:=[(0,[.reg 4 (.dat (.int .i64)),.cello 1003 0 (.ol 169 (ZaY))])],draws:=[(1,[0,0,2,7,0,0,32,127,255,0,1023],.op 1 (.op 2 (.op 5 (.ld 6 (.alt 0 (.alt 3 (.alt 4 (.alt 7 (.op 8 (.alt 9 (.alt 10 (.done) (.done)) (.done))) (.alt 9 (.alt 7 (.op 8 (.alt 10 (.done) (.done))) (.done)) (.done))) (.alt 9 (.alt 4 (.alt 7 (.op 8 (.alt 10 (.done) (.done))) (.done)) (.done)) (.done))) (.alt 4 (.alt 3 (.alt 7 (.op 8 (.alt 9 (.alt 10 (.done) (.done)) (.done))) (.alt 9 (.alt 7 (.op 8 (.alt 10 (.done) (.done))) (.done)) (.done))) (.alt 9 (.alt 3 (.alt 7 (.op 8 (.alt 10 (.done) (.done))) (.done)) (.done)) (.done))) (.alt 9 (.alt 3 (.alt 4 (.alt 7 (.op 8 (.alt 10 (.done) (.done))) (.done)) (.done)) (.alt 4 (.alt 3 (.alt 7 (.op 8 (.alt 10 (.done) (.done))) (.done)) (.done)) (.done))) (.done)))) (.alt 4 (.alt 0 (.alt 3 (.alt 7 (.op 8 (.alt 9 (.alt 10 (.done) (.done)) (.done))) (.alt 9 (.alt 7 (.op 8 (.alt 10 (.done) (.done))) (.done)) (.done))) (.alt 9 (.alt 3 (.alt 7 (.op 8 (.alt 10 (.done) (.done))) (.done)) (.done)) (.done))) (.alt 9 (.alt 0 (.alt 3 (.alt 7 (.op 8 (.alt 10 (.done) (.done))) (.done)) (.done)) (.done)) (.done))) (.alt 9 (.alt 0 (.alt 3 (.alt 4 (.alt 7 (.op 8 (.alt 10 (.done) (.done))) (.done)) (.done)) (.alt 4 (.alt 3 (.alt 7 (.op 8 (.alt 10 (.done) (.done))) (.done)) (.done)) (.done))) (.alt 4 (.alt 0 (.alt 3 (.alt 7 (.op 8 (.alt 10 (.done) (.done))) (.done)) (.done)) (.done)) (.done))) (.done))))))))]} (fn:=Tryz.f84) Tryz.func84 (by kernel_rfl) (by kernel_rfl) ?_
 rintro ⟨d0,⟨⟩⟩ K ⟨r,h,hK⟩
 change ZeH d0=some r at h
 unfold ZeH at h
 focus
  conv=>whnf
  refine ⟨by kernel_rfl,?_⟩
  conv=>whnf
  refine ⟨by kernel_rfl,?_⟩
  conv=>whnf
  obtain ⟨hp0,h⟩:=guardE h
  obtain ⟨hp1,h⟩:=guardE h
  refine ⟨?_,?_⟩
  rotate_left
  focus
   conv=>whnf
   refine ⟨?_,?_⟩
   rotate_left
   focus
    conv=>whnf
    refine ⟨?_,?_⟩
    rotate_left
    focus
     conv=>whnf
     refine ⟨by kernel_rfl,?_⟩
     conv=>whnf
     refine ⟨hp0,?_⟩
     conv=>whnf
     refine ⟨by kernel_rfl,?_⟩
     conv=>whnf
     refine ⟨hp1,?_⟩
     conv=>whnf
     refine ⟨trivial,?_⟩
    rotate_right
    focus
     conv=>whnf
     refine ⟨?_,?_⟩
     rotate_left
     focus
      conv=>whnf
      refine ⟨by kernel_rfl,?_⟩
      conv=>whnf
      refine ⟨hp0,?_⟩
      conv=>whnf
      refine ⟨by kernel_rfl,?_⟩
      conv=>whnf
      refine ⟨hp1,?_⟩
      conv=>whnf
      refine ⟨trivial,?_⟩
     rotate_right
     focus
      conv=>whnf
      refine ⟨by kernel_rfl,?_⟩
      conv=>whnf
      refine ⟨hp0,?_⟩
      conv=>whnf
      refine ⟨by kernel_rfl,?_⟩
      conv=>whnf
      refine ⟨hp1,?_⟩
      conv=>whnf
      refine ⟨trivial,?_⟩
   rotate_right
   focus
    conv=>whnf
    refine ⟨?_,?_⟩
    rotate_left
    focus
     conv=>whnf
     refine ⟨by kernel_rfl,?_⟩
     conv=>whnf
     refine ⟨hp0,?_⟩
     conv=>whnf
     refine ⟨by kernel_rfl,?_⟩
     conv=>whnf
     refine ⟨hp1,?_⟩
     conv=>whnf
     refine ⟨trivial,?_⟩
    rotate_right
    focus
     conv=>whnf
     refine ⟨?_,?_⟩
     rotate_left
     focus
      conv=>whnf
      refine ⟨by kernel_rfl,?_⟩
      conv=>whnf
      refine ⟨hp0,?_⟩
      conv=>whnf
      refine ⟨by kernel_rfl,?_⟩
      conv=>whnf
      refine ⟨hp1,?_⟩
      conv=>whnf
      refine ⟨trivial,?_⟩
     rotate_right
     focus
      conv=>whnf
      refine ⟨by kernel_rfl,?_⟩
      conv=>whnf
      refine ⟨hp0,?_⟩
      conv=>whnf
      refine ⟨?_,?_⟩
      rotate_left
      focus
       conv=>whnf
       refine ⟨by kernel_rfl,?_⟩
       conv=>whnf
       refine ⟨hp1,?_⟩
       conv=>whnf
       refine ⟨trivial,?_⟩
      rotate_right
      focus
       conv=>whnf
       refine ⟨by kernel_rfl,?_⟩
       conv=>whnf
       refine ⟨hp1,?_⟩
       conv=>whnf
       refine ⟨trivial,?_⟩
  rotate_right
  focus
   conv=>whnf
   refine ⟨?_,?_⟩
   rotate_left
   focus
    conv=>whnf
    refine ⟨?_,?_⟩
    rotate_left
    focus
     conv=>whnf
     refine ⟨?_,?_⟩
     rotate_left
     focus
      conv=>whnf
      refine ⟨by kernel_rfl,?_⟩
      conv=>whnf
      refine ⟨hp0,?_⟩
      conv=>whnf
      refine ⟨by kernel_rfl,?_⟩
      conv=>whnf
      refine ⟨hp1,?_⟩
      conv=>whnf
      refine ⟨trivial,?_⟩
     rotate_right
     focus
      conv=>whnf
      refine ⟨by kernel_rfl,?_⟩
      conv=>whnf
      refine ⟨hp0,?_⟩
      conv=>whnf
      refine ⟨by kernel_rfl,?_⟩
      conv=>whnf
      refine ⟨hp1,?_⟩
      conv=>whnf
      refine ⟨trivial,?_⟩
    rotate_right
    focus
     conv=>whnf
     refine ⟨?_,?_⟩
     rotate_left
     focus
      conv=>whnf
      refine ⟨by kernel_rfl,?_⟩
      conv=>whnf
      refine ⟨hp0,?_⟩
      conv=>whnf
      refine ⟨by kernel_rfl,?_⟩
      conv=>whnf
      refine ⟨hp1,?_⟩
      conv=>whnf
      refine ⟨trivial,?_⟩
     rotate_right
     focus
      conv=>whnf
      refine ⟨by kernel_rfl,?_⟩
      conv=>whnf
      refine ⟨hp0,?_⟩
      conv=>whnf
      refine ⟨?_,?_⟩
      rotate_left
      focus
       conv=>whnf
       refine ⟨by kernel_rfl,?_⟩
       conv=>whnf
       refine ⟨hp1,?_⟩
       conv=>whnf
       refine ⟨trivial,?_⟩
      rotate_right
      focus
       conv=>whnf
       refine ⟨by kernel_rfl,?_⟩
       conv=>whnf
       refine ⟨hp1,?_⟩
       conv=>whnf
       refine ⟨trivial,?_⟩
   rotate_right
   focus
    conv=>whnf
    refine ⟨by kernel_rfl,?_⟩
    conv=>whnf
    refine ⟨hp0,?_⟩
    conv=>whnf
    refine ⟨?_,?_⟩
    rotate_left
    focus
     conv=>whnf
     refine ⟨by kernel_rfl,?_⟩
     conv=>whnf
     refine ⟨hp1,?_⟩
     conv=>whnf
     refine ⟨trivial,?_⟩
    rotate_right
    focus
     conv=>whnf
     refine ⟨?_,?_⟩
     rotate_left
     focus
      conv=>whnf
      refine ⟨by kernel_rfl,?_⟩
      conv=>whnf
      refine ⟨hp1,?_⟩
      conv=>whnf
      refine ⟨trivial,?_⟩
     rotate_right
     focus
      conv=>whnf
      refine ⟨by kernel_rfl,?_⟩
      conv=>whnf
      refine ⟨hp1,?_⟩
      conv=>whnf
      refine ⟨trivial,?_⟩
  all_goals
   conv=>whnf
   refine Yk h ?_
   rintro I2 μ2 ⟨i0,c0,⟨⟩⟩ zs2 h hI2 hR2
   change JC d0 i0 c0=some zs2 at h
   unfold JC at h
   conv=>whnf
   intro fp3
   conv=>whnf
   refine Zx h (fun h=>?_) (fun h=>?_)
   conv=>whnf
   refine vAt h (fun x0 he4a he4b he4x h=>?_)
   conv=>whnf
   refine Zk h (fun l02Ints0 hb5 h=>?_)
   conv=>whnf
   intro fp6
   conv=>whnf
   refine QJ h (fun hp7 h=>?_)
   conv=>whnf
   intro fp8
   conv=>whnf
   cases h
   exact ⟨⟨rfl,rfl⟩,hI2 _ rfl⟩
   conv=>whnf
   cases h
   obtain rfl:=hR2 _ rfl
   exact hK
theorem w75:Zc Tryz.prog 234 c75:=by
 refine Zg Zq Zj mixed {} (fn:=Tryz.f234) Tryz.func234 (by kernel_rfl) (by kernel_rfl) ?_
 rintro ⟨w0,⟨⟩⟩ K ⟨r,h,hK⟩
 change ZeV w0=some r at h
 unfold ZeV at h
 conv=>whnf
 refine Zx h (fun h=>?_) (fun h=>?_)
 conv=>whnf
 refine vAt h (fun x0 he0a he0b he0x h=>?_)
 conv=>whnf
 cases h
 exact hK
 conv=>whnf
 cases h
 exact hK
theorem w80:Zc Tryz.prog 150 c80:=by
 refine Zg YQ Zj mixed {draws:=[(3,[0,1,0,4,15,31,63,0,128,0,1023,2047],.op 0 (.op 1 (.op 2 (.op 3 (.op 4 (.op 5 (.op 6 (.op 7 (.op 8 (.op 9 (.op 10 (.alt 11 (.done) (.done)))))))))))))]} (fn:=Tryz.f150) Tryz.func150 (by kernel_rfl) (by kernel_rfl) ?_
 rintro ⟨d0,p0,net0,⟨⟩⟩ K ⟨r,h,hK⟩
 change VN d0 p0 net0=some r at h
 unfold VN at h
 conv=>whnf
 intro fp0
 conv=>whnf
 refine Zx h (fun h=>?_) (fun h=>?_)
 conv=>whnf
 refine vAt h (fun x0 he1a he1b he1x h=>?_)
 conv=>whnf
 refine ⟨by kernel_rfl,?_⟩
 conv=>whnf
 refine ⟨by decide,?_⟩
 conv=>whnf
 refine ⟨he1a,he1b,Zo he1x ?_⟩
 conv=>whnf
 cases h
 exact hK
 conv=>whnf
 refine ⟨by kernel_rfl,?_⟩
 conv=>whnf
 refine vAt h (fun x0 he2a he2b he2x h=>?_)
 conv=>whnf
 refine ⟨he2a,he2b,Zo he2x ?_⟩
 conv=>whnf
 intro fp3
 conv=>whnf
 refine vAt h (fun x1 he4a he4b he4x h=>?_)
 conv=>whnf
 refine ⟨by kernel_rfl,?_⟩
 conv=>whnf
 refine ⟨by decide,?_⟩
 conv=>whnf
 refine ⟨he4a,he4b,Zo he4x ?_⟩
 conv=>whnf
 refine ⟨trivial,?_⟩
 conv=>whnf
 cases h
 exact hK
theorem w76 (q0:Zc Tryz.prog 176 c71) (q1:Zc Tryz.prog 82 c57) (q2:Zc Tryz.prog 234 c75):Zc Tryz.prog 180 c76:=by
 refine Zg Zq (Ze q0 (Ze q1 (Ze q2 Zj))) mixed {draws:=[(6,[0,1,3,0,8,31,63,127,255,511,1023,2047,4095,8191,1023,32767,65535,131071,262143,524287,1048575,262143,4194303,8388607,262143,17039359,67108863,134217727,268435455,536870911,1073741823,2147483647,4294967295,536870911,17179869183,34359738367],.op 0 (.op 1 (.op 2 (.op 3 (.op 4 (.op 5 (.op 6 (.alt 7 (.op 8 (.op 9 (.op 10 (.op 11 (.op 12 (.op 13 (.op 14 (.op 15 (.op 16 (.op 17 (.op 18 (.op 19 (.op 20 (.op 21 (.op 22 (.op 23 (.op 24 (.op 25 (.op 26 (.op 27 (.op 28 (.op 29 (.op 30 (.op 31 (.op 32 (.op 33 (.op 34 (.op 35 (.done))))))))))))))))))))))))))))) (.done)))))))))]} (fn:=Tryz.f180) Tryz.func180 (by kernel_rfl) (by kernel_rfl) ?_
 rintro ⟨a0,⟨⟩⟩ K ⟨r,h,hK⟩
 change Zdr a0=some r at h
 unfold Zdr at h
 conv=>whnf
 refine Zx h (fun h=>?_) (fun h=>?_)
 conv=>whnf
 cases h
 exact hK
 conv=>whnf
 refine vAt h (fun x0 he0a he0b he0x h=>?_)
 conv=>whnf
 refine ⟨by kernel_rfl,?_⟩
 conv=>whnf
 refine vAt h (fun x1 he1a he1b he1x h=>?_)
 conv=>whnf
 refine Zk h (fun l08Buffer0 hb2 h=>?_)
 conv=>whnf
 refine Ze5 ?_
 refine YJ h (fun h=>?_) (fun h=>?_)
 conv=>whnf
 refine vAt h (fun x2 he3a he3b he3x h=>?_)
 conv=>whnf
 refine Ze5 ?_
 refine Zx h (fun h=>?_) (fun h=>?_)
 conv=>whnf
 refine vAt h (fun x3 he4a he4b he4x h=>?_)
 conv=>whnf
 refine Ze5 ?_
 refine Zx h (fun h=>?_) (fun h=>?_)
 conv=>whnf
 refine vAt h (fun x4 he5a he5b he5x h=>?_)
 conv=>whnf
 refine ⟨trivial,?_⟩
 conv=>whnf
 refine Zx h (fun h=>?_) (fun h=>?_)
 conv=>whnf
 cases h
 exact hK
 conv=>whnf
 refine Zk h (fun l05Sinks0 hb6 h=>?_)
 conv=>whnf
 refine Zx h (fun h=>?_) (fun h=>?_)
 conv=>whnf
 refine vAt h (fun x5 he7a he7b he7x h=>?_)
 conv=>whnf
 refine Zk h (fun l08Bare0 hb8 h=>?_)
 conv=>whnf
 cases h
 exact hK
 conv=>whnf
 cases h
 exact hK
 conv=>whnf
 refine ⟨trivial,?_⟩
 conv=>whnf
 cases h
 exact hK
 conv=>whnf
 refine ⟨trivial,?_⟩
 conv=>whnf
 cases h
 exact hK
 conv=>whnf
 refine ⟨trivial,?_⟩
 conv=>whnf
 cases h
 exact hK
theorem w79 (q0:Zc Tryz.prog 134 c56) (q1:Zc Tryz.prog 82 c57):Zc Tryz.prog 149 c79:=by
 refine Zg Zq (Ze q0 (Ze q1 Zj)) mixed {loops:=[(0,[.reg 4 (.dat (.int .i64)),.ent 2 (nat_lit 2) (.flat Ztr.ety)]),(2,[.reg 6 (.dat (.int .i64)),.ent 2 (nat_lit 2) (.flat Ztr.ety)])],draws:=[(9,[0,0,0,6,14,0,32,0,224,480,992,0,4064,8160,16383,32767],.op 0 (.op 1 (.op 2 (.op 3 (.op 4 (.op 5 (.op 6 (.op 7 (.op 8 (.op 9 (.op 10 (.op 11 (.op 12 (.op 13 (.op 14 (.alt 15 (.done) (.done)))))))))))))))))]} (fn:=Tryz.f149) Tryz.func149 (by kernel_rfl) (by kernel_rfl) ?_
 rintro ⟨b0,⟨⟩⟩ K ⟨r,h,hK⟩
 change Zax b0=some r at h
 unfold Zax at h
 conv=>whnf
 refine Zk h (fun l05Places0 hb0 h=>?_)
 conv=>whnf
 refine QJ h (fun hp1 h=>?_)
 conv=>whnf
 refine QJ h (fun hp2 h=>?_)
 conv=>whnf
 refine QJ h (fun hp3 h=>?_)
 conv=>whnf
 refine QJ h (fun hp4 h=>?_)
 conv=>whnf
 refine Yk h ?_
 rintro I5 μ5 ⟨net0,l0,⟨⟩⟩ zs5 h hI5 hR5
 change J8 b0 net0 l0=some zs5 at h
 unfold J8 at h
 conv=>whnf
 refine Zx h (fun h=>?_) (fun h=>?_)
 conv=>whnf
 refine Zk h (fun l05Sinks0 hb6 h=>?_)
 conv=>whnf
 refine Yk h ?_
 rintro I7 μ7 ⟨i0,l1,⟨⟩⟩ zs7 h hI7 hR7
 change J4 b0 net0 l05Sinks0 i0 l1=some zs7 at h
 unfold J4 at h
 conv=>whnf
 refine Zx h (fun h=>?_) (fun h=>?_)
 conv=>whnf
 refine ⟨by kernel_rfl,?_⟩
 conv=>whnf
 refine vAt h (fun x0 he8a he8b he8x h=>?_)
 conv=>whnf
 refine ⟨by kernel_rfl,?_⟩
 conv=>whnf
 refine ⟨he8a,he8b,Zo he8x ?_⟩
 conv=>whnf
 refine vAt h (fun x1 he9a he9b he9x h=>?_)
 conv=>whnf
 refine vAt h (fun x2 he10a he10b he10x h=>?_)
 conv=>whnf
 refine vAt h (fun x3 he11a he11b he11x h=>?_)
 conv=>whnf
 refine ⟨by kernel_rfl,?_⟩
 conv=>whnf
 refine ⟨by decide,?_⟩
 conv=>whnf
 refine ⟨he11a,he11b,Zo he11x ?_⟩
 conv=>whnf
 refine ⟨trivial,?_⟩
 conv=>whnf
 cases h
 exact ⟨⟨rfl,rfl⟩,hI7 _ rfl⟩
 conv=>whnf
 cases h
 obtain rfl:=hR7 _ rfl
 exact ⟨⟨rfl,rfl⟩,hI5 _ rfl⟩
 conv=>whnf
 cases h
 obtain rfl:=hR5 _ rfl
 exact hK
end Go.Proofs.YtfndhpjedmopdaaGreatDoor
