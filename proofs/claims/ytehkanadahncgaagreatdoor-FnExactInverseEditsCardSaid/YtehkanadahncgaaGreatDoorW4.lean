/-
  The functions keep their contracts, if what they call does. Printed by program.
-/
import Derived.Test.YtehkanadahncgaaGreatDoorM
import Derived.KernelRfl
namespace Go.Proofs.YtehkanadahncgaaGreatDoor
open Go Go.Sx
set_option maxRecDepth 100000
set_option maxHeartbeats 3200000
set_option linter.unusedVariables false
set_option linter.unusedSimpArgs false
theorem ZzU (q0:Zc Tryz.prog 156 c130) (q1:Zc Tryz.prog 181 c164):Zc Tryz.prog 185 ZxX:=by
 refine Zg Zr (Ze q0 (Ze q1 Zj)) mixed {draws:=[(6,[0,1,3,0,8,31,63,127,255,511,1023,2047,4095,8191,1023,32767,65535,131071,262143,524287,1048575,2097151,262143,8388607,16777215,33554431,67108863,134217727,67108863,536870911,1073741823,67108863,2214592511,8589934591,17179869183],.op 0 (.op 1 (.op 2 (.op 3 (.op 4 (.op 5 (.op 6 (.alt 7 (.op 8 (.op 9 (.op 10 (.op 11 (.op 12 (.op 13 (.op 14 (.op 15 (.op 16 (.op 17 (.op 18 (.op 19 (.op 20 (.op 21 (.op 22 (.op 23 (.op 24 (.op 25 (.op 26 (.op 27 (.op 28 (.op 29 (.op 30 (.op 31 (.op 32 (.op 33 (.op 34 (.done)))))))))))))))))))))))))))) (.done)))))))))]} (fn:=Tryz.f185) Tryz.func185 (by kernel_rfl) (by kernel_rfl) ?_
 rintro ⟨a0,⟨⟩⟩ K ⟨r,h,hK⟩
 change XK a0=some r at h
 unfold XK at h
 conv=>whnf
 refine Zz h (fun h=>?_) (fun h=>?_)
 conv=>whnf
 cases h
 exact hK
 conv=>whnf
 refine vAt h (fun x0 he0a he0b he0x h=>?_)
 conv=>whnf
 refine Zl h (fun string0 hb1 h=>?_)
 conv=>whnf
 refine ⟨by kernel_rfl,?_⟩
 conv=>whnf
 refine vAt h (fun x1 he2a he2b he2x h=>?_)
 conv=>whnf
 refine Zl h (fun isBuffer0 hb3 h=>?_)
 conv=>whnf
 refine ZeX ?_
 refine YJ h (fun h=>?_) (fun h=>?_)
 conv=>whnf
 refine vAt h (fun x2 he4a he4b he4x h=>?_)
 conv=>whnf
 refine ZeX ?_
 refine Zz h (fun h=>?_) (fun h=>?_)
 conv=>whnf
 refine vAt h (fun x3 he5a he5b he5x h=>?_)
 conv=>whnf
 refine Zk4 h (fun h=>?_) (fun h=>?_)
 conv=>whnf
 refine ⟨trivial,?_⟩
 conv=>whnf
 cases h
 exact hK
 conv=>whnf
 refine vAt h (fun x4 he6a he6b he6x h=>?_)
 conv=>whnf
 refine ⟨trivial,?_⟩
 conv=>whnf
 refine Yb ?_
 refine Zz h (fun h=>?_) (fun h=>?_)
 conv=>whnf
 refine vAt h (fun x5 he7a he7b he7x h=>?_)
 conv=>whnf
 refine Zz h (fun h=>?_) (fun h=>?_)
 conv=>whnf
 refine Zz h (fun h=>?_) (fun h=>?_)
 conv=>whnf
 refine vAt h (fun x6 he8a he8b he8x h=>?_)
 conv=>whnf
 cases h
 exact hK
 conv=>whnf
 cases h
 exact hK
 conv=>whnf
 cases h
 exact hK
 conv=>whnf
 cases h
 exact hK
 conv=>whnf
 refine ⟨trivial,?_⟩
 conv=>whnf
 cases h
 exact hK
 conv=>whnf
 refine ⟨trivial,?_⟩
 conv=>whnf
 cases h
 exact hK
theorem ZCD (q0:Zc Tryz.prog 248 Zwf) (q1:Zc Tryz.prog 139 ZvC) (q2:Zc Tryz.prog 249 c124):Zc Tryz.prog 220 ZxM:=by
 refine Zg Zr (Ze q0 (Ze q1 (Ze q2 Zj))) mixed {loops:=[(0,[.reg 3 (.dat (.int .i64)),.reg 9 (.dat (.int .i64))])],draws:=[(10,[0,1,3,7,15,31,7,71,199,511,1023,2047,4095,8191,16383,32767,65535],.op 0 (.op 1 (.op 2 (.op 3 (.op 4 (.op 5 (.op 6 (.alt 7 (.op 8 (.op 9 (.op 10 (.op 11 (.op 12 (.op 13 (.alt 14 (.op 15 (.op 16 (.done))) (.done)))))))) (.done))))))))),(12,[0,1,3,7,15,31,63,127,255,511,1023,2047,4095,8191,16383,32767,16383,131071,262143,524287,1048575],.op 0 (.op 1 (.op 2 (.op 3 (.op 4 (.op 5 (.op 6 (.op 7 (.op 8 (.op 9 (.alt 10 (.op 11 (.op 12 (.op 13 (.op 14 (.op 16 (.alt 15 (.alt 17 (.op 18 (.op 19 (.op 20 (.done)))) (.done)) (.done))))))) (.done))))))))))))]} (fn:=Tryz.f220) Tryz.func220 (by kernel_rfl) (by kernel_rfl) ?_
 rintro ⟨a0,⟨⟩⟩ K ⟨r,h,hK⟩
 change VG a0=some r at h
 unfold VG at h
 conv=>whnf
 refine Yj h ?_
 rintro I0 μ0 ⟨v0,v1,⟨⟩⟩ zs0 h hI0 hR0
 change Y2 a0 v0 v1=some zs0 at h
 unfold Y2 at h
 conv=>whnf
 refine Zz h (fun h=>?_) (fun h=>?_)
 conv=>whnf
 refine vAt h (fun x0 he1a he1b he1x h=>?_)
 conv=>whnf
 refine YJ h (fun h=>?_) (fun h=>?_)
 conv=>whnf
 cases h
 exact ⟨⟨rfl,rfl⟩,hI0 _ rfl⟩
 conv=>whnf
 cases h
 exact ⟨⟨rfl,rfl⟩,hI0 _ rfl⟩
 conv=>whnf
 refine Zz h (fun h=>?_) (fun h=>?_)
 conv=>whnf
 refine ⟨by kernel_rfl,?_⟩
 conv=>whnf
 refine Zz h (fun h=>?_) (fun h=>?_)
 conv=>whnf
 refine Zl h (fun output0 hb2 h=>?_)
 conv=>whnf
 refine Qt h (fun hp3 h=>?_)
 conv=>whnf
 refine Zz h (fun h=>?_) (fun h=>?_)
 conv=>whnf
 refine Zl h (fun areWithin0 hb4 h=>?_)
 conv=>whnf
 refine ⟨trivial,?_⟩
 conv=>whnf
 cases h
 obtain rfl:=hR0 _ rfl
 exact hK
 conv=>whnf
 refine ⟨trivial,?_⟩
 conv=>whnf
 cases h
 obtain rfl:=hR0 _ rfl
 exact hK
 conv=>whnf
 refine ⟨trivial,?_⟩
 conv=>whnf
 cases h
 obtain rfl:=hR0 _ rfl
 exact hK
 conv=>whnf
 refine Zz h (fun h=>?_) (fun h=>?_)
 conv=>whnf
 refine ⟨by kernel_rfl,?_⟩
 conv=>whnf
 refine Zz h (fun h=>?_) (fun h=>?_)
 conv=>whnf
 refine Zz h (fun h=>?_) (fun h=>?_)
 conv=>whnf
 refine Zl h (fun has0 hb5 h=>?_)
 conv=>whnf
 refine Yb ?_
 refine YJ h (fun h=>?_) (fun h=>?_)
 conv=>whnf
 refine ⟨trivial,?_⟩
 conv=>whnf
 cases h
 obtain rfl:=hR0 _ rfl
 exact hK
 conv=>whnf
 refine Zl h (fun has1 hb6 h=>?_)
 conv=>whnf
 refine Zl h (fun has2 hb7 h=>?_)
 conv=>whnf
 refine ⟨trivial,?_⟩
 conv=>whnf
 cases h
 obtain rfl:=hR0 _ rfl
 exact hK
 conv=>whnf
 refine ⟨trivial,?_⟩
 conv=>whnf
 cases h
 obtain rfl:=hR0 _ rfl
 exact hK
 conv=>whnf
 refine ⟨trivial,?_⟩
 conv=>whnf
 cases h
 obtain rfl:=hR0 _ rfl
 exact hK
 conv=>whnf
 refine Zz h (fun h=>?_) (fun h=>?_)
 conv=>whnf
 refine Zz h (fun h=>?_) (fun h=>?_)
 conv=>whnf
 refine Zz h (fun h=>?_) (fun h=>?_)
 conv=>whnf
 refine Zl h (fun has0 hb8 h=>?_)
 conv=>whnf
 refine YJ h (fun h=>?_) (fun h=>?_)
 conv=>whnf
 refine Zl h (fun has1 hb9 h=>?_)
 conv=>whnf
 refine YJ h (fun h=>?_) (fun h=>?_)
 conv=>whnf
 refine Zl h (fun has2 hb10 h=>?_)
 conv=>whnf
 cases h
 obtain rfl:=hR0 _ rfl
 exact hK
 conv=>whnf
 cases h
 obtain rfl:=hR0 _ rfl
 exact hK
 conv=>whnf
 cases h
 obtain rfl:=hR0 _ rfl
 exact hK
 conv=>whnf
 cases h
 obtain rfl:=hR0 _ rfl
 exact hK
 conv=>whnf
 cases h
 obtain rfl:=hR0 _ rfl
 exact hK
 conv=>whnf
 cases h
 obtain rfl:=hR0 _ rfl
 exact hK
theorem ZBI (q0:Zc Tryz.prog 244 c92):Zc Tryz.prog 248 Zwf:=by
 refine Zg Zr (Ze q0 Zj) mixed {} (fn:=Tryz.f248) Tryz.func248 (by kernel_rfl) (by kernel_rfl) ?_
 rintro ⟨c0,⟨⟩⟩ K ⟨r,h,hK⟩
 change VL c0=some r at h
 unfold VL at h
 conv=>whnf
 refine Zl h (fun Pin0 hb0 h=>?_)
 conv=>whnf
 cases h
 exact hK
theorem ZB1 (q1:Zc Tryz.prog 179 ZwO) (q2:Zc Tryz.prog 137 c90) (q0:Zc Tryz.prog 188 Zxd):Zc Tryz.prog 132 ZxG:=by
 refine Zg Zr (Ze q1 (Ze q2 (Ze q0 Zj))) mixed {draws:=[(1,[0,1,0,4,12,28,63,127,255,511,1023,255,2303,255,8447,30975,63743,129279,260351,524287,1048575,2097151,4194303,8388607,4194303,33554431,67108863,134217727,268435455],.op 0 (.op 1 (.op 2 (.op 3 (.alt 4 (.op 5 (.alt 6 (.op 7 (.op 8 (.op 9 (.op 10 (.op 11 (.op 12 (.op 13 (.op 14 (.op 15 (.op 16 (.op 17 (.op 18 (.op 19 (.op 20 (.op 21 (.op 22 (.op 23 (.op 24 (.alt 25 (.op 26 (.op 27 (.op 28 (.done)))) (.done)))))))))))))))))))) (.done))) (.done))))))]} (fn:=Tryz.f132) Tryz.func132 (by kernel_rfl) (by kernel_rfl) ?_
 rintro ⟨d0,l0,x0,⟨⟩⟩ K ⟨r,h,hK⟩
 change XM d0 l0 x0=some r at h
 unfold XM at h
 conv=>whnf
 refine ⟨by kernel_rfl,?_⟩
 conv=>whnf
 refine Zl h (fun Cell0 hb0 h=>?_)
 conv=>whnf
 refine Zl h (fun within0 hb1 h=>?_)
 conv=>whnf
 refine YJ h (fun h=>?_) (fun h=>?_)
 conv=>whnf
 refine vAt h (fun x1 he2a he2b he2x h=>?_)
 conv=>whnf
 refine Zz h (fun h=>?_) (fun h=>?_)
 conv=>whnf
 refine Zl h (fun c1_0 hb3 h=>?_)
 conv=>whnf
 refine ⟨trivial,?_⟩
 conv=>whnf
 cases h
 exact hK
 conv=>whnf
 refine ⟨trivial,?_⟩
 conv=>whnf
 cases h
 exact hK
 conv=>whnf
 refine ⟨trivial,?_⟩
 conv=>whnf
 cases h
 exact hK
theorem Zy8 (q0:Zc Tryz.prog 70 Zra):Zc Tryz.prog 158 c173:=by
 refine Zg Zr (Ze q0 Zj) mixed {loops:=[(0,[.reg 5 (.own (.ol 2 (.flat (.int .i64)))),.reg 11 (.dat (.int .i64))])]} (fn:=Tryz.f158) Tryz.func158 (by kernel_rfl) (by kernel_rfl) ?_
 rintro ⟨d0,net0,⟨⟩⟩ K ⟨r,h,hK⟩
 change Jr d0 net0=some r at h
 unfold Jr at h
 conv=>whnf
 refine Zl h (fun places0 hb0 h=>?_)
 conv=>whnf
 refine Yj h ?_
 rintro I1 μ1 ⟨list0,v0,⟨⟩⟩ zs1 h hI1 hR1
 change QI net0 places0 list0 v0=some zs1 at h
 unfold QI at h
 conv=>whnf
 refine Zz h (fun h=>?_) (fun h=>?_)
 conv=>whnf
 refine vAt h (fun x0 he2a he2b he2x h=>?_)
 conv=>whnf
 refine ⟨by kernel_rfl,?_⟩
 conv=>whnf
 refine ⟨he2a,he2b,Zp he2x ?_⟩
 conv=>whnf
 refine Zz h (fun h=>?_) (fun h=>?_)
 conv=>whnf
 refine Yb ?_
 refine YJ h (fun h=>?_) (fun h=>?_)
 conv=>whnf
 cases h
 exact ⟨⟨rfl,rfl⟩,hI1 _ rfl⟩
 conv=>whnf
 refine Qt h (fun hp3 h=>?_)
 conv=>whnf
 cases h
 exact ⟨⟨rfl,rfl⟩,hI1 _ rfl⟩
 conv=>whnf
 cases h
 exact ⟨⟨rfl,rfl⟩,hI1 _ rfl⟩
 conv=>whnf
 cases h
 obtain rfl:=hR1 _ rfl
 exact hK
theorem ZCq (q0:Zc Tryz.prog 42 Zxs):Zc Tryz.prog 12 Zyy:=by
 refine Zg YO (Ze q0 Zj) mixed {} (fn:=Tryz.f12) Tryz.func12 (by kernel_rfl) (by kernel_rfl) ?_
 rintro ⟨b0,list0,⟨⟩⟩ K ⟨r,h,hK⟩
 change Jo b0 list0=some r at h
 unfold Jo at h
 conv=>whnf
 refine Zl h (fun applyAll0 hb0 h=>?_)
 conv=>whnf
 intro fp1
 conv=>whnf
 intro fp2
 conv=>whnf
 intro fp3
 conv=>whnf
 intro fp4
 conv=>whnf
 cases h
 exact hK
theorem Zz0 (q3:Zc Tryz.prog 182 c91) (q2:Zc Tryz.prog 218 c96) (q1:Zc Tryz.prog 219 Zw7) (q4:Zc Tryz.prog 137 c90) (q0:Zc Tryz.prog 220 ZxM):Zc Tryz.prog 186 Zyt:=by
 refine Zg Zr (Ze q3 (Ze q2 (Ze q1 (Ze q4 (Ze q0 Zj))))) mixed {} (fn:=Tryz.f186) Tryz.func186 (by kernel_rfl) (by kernel_rfl) ?_
 rintro ⟨c0,⟨⟩⟩ K ⟨r,h,hK⟩
 change Zd7 c0=some r at h
 unfold Zd7 at h
 conv=>whnf
 refine Zl h (fun isName0 hb0 h=>?_)
 conv=>whnf
 refine YJ h (fun h=>?_) (fun h=>?_)
 conv=>whnf
 refine Zl h (fun arePins0 hb1 h=>?_)
 conv=>whnf
 refine YJ h (fun h=>?_) (fun h=>?_)
 conv=>whnf
 refine Zl h (fun areArcs0 hb2 h=>?_)
 conv=>whnf
 refine YJ h (fun h=>?_) (fun h=>?_)
 conv=>whnf
 refine Zl h (fun within0 hb3 h=>?_)
 conv=>whnf
 refine YJ h (fun h=>?_) (fun h=>?_)
 conv=>whnf
 refine Zl h (fun within1 hb4 h=>?_)
 conv=>whnf
 refine YJ h (fun h=>?_) (fun h=>?_)
 conv=>whnf
 refine Zl h (fun isOfKind0 hb5 h=>?_)
 conv=>whnf
 cases h
 exact hK
 conv=>whnf
 cases h
 exact hK
 conv=>whnf
 cases h
 exact hK
 conv=>whnf
 cases h
 exact hK
 conv=>whnf
 cases h
 exact hK
 conv=>whnf
 cases h
 exact hK
theorem ZB3 (q4:Zc Tryz.prog 130 c127) (q2:Zc Tryz.prog 131 ZxT) (q1:Zc Tryz.prog 132 ZxG) (q3:Zc Tryz.prog 133 c131) (q0:Zc Tryz.prog 134 c138):Zc Tryz.prog 69 c139:=by
 refine Zg Zr (Ze q4 (Ze q2 (Ze q1 (Ze q3 (Ze q0 Zj))))) mixed {loops:=[(0,[.reg 25 (.dat (.int .i64)),.ent 2 (nat_lit 3) (.flat Zp3.ety)]),(2,[.reg 51 (.dat (.int .i64)),.ent 2 (nat_lit 3) (.flat Zp3.ety)])]} (fn:=Tryz.f69) Tryz.func69 (by kernel_rfl) (by kernel_rfl) ?_
 rintro ⟨a0,a1,⟨⟩⟩ K ⟨r,h,hK⟩
 change Zcf a0 a1=some r at h
 unfold Zcf at h
 conv=>whnf
 refine Zl h (fun IsLibrary0 hb0 h=>?_)
 conv=>whnf
 refine ZeX ?_
 refine YJ h (fun h=>?_) (fun h=>?_)
 conv=>whnf
 refine Zl h (fun hasNames0 hb1 h=>?_)
 conv=>whnf
 refine Yb ?_
 refine YJ h (fun h=>?_) (fun h=>?_)
 conv=>whnf
 refine Qt h (fun hp2 h=>?_)
 conv=>whnf
 refine Qt h (fun hp3 h=>?_)
 conv=>whnf
 refine Qt h (fun hp4 h=>?_)
 conv=>whnf
 refine Qt h (fun hp5 h=>?_)
 conv=>whnf
 refine Yj h ?_
 rintro I6 μ6 ⟨v0,l0,⟨⟩⟩ zs6 h hI6 hR6
 change Vg a0 a1 v0 l0=some zs6 at h
 unfold Vg at h
 conv=>whnf
 refine Zz h (fun h=>?_) (fun h=>?_)
 conv=>whnf
 refine vAt h (fun x0 he7a he7b he7x h=>?_)
 conv=>whnf
 refine Zl h (fun isInstance0 hb8 h=>?_)
 conv=>whnf
 refine Yb ?_
 refine YJ h (fun h=>?_) (fun h=>?_)
 conv=>whnf
 refine vAt h (fun x1 he9a he9b he9x h=>?_)
 conv=>whnf
 refine vAt h (fun x2 he10a he10b he10x h=>?_)
 conv=>whnf
 refine ⟨by kernel_rfl,?_⟩
 conv=>whnf
 refine ⟨he10a,he10b,Zp he10x ?_⟩
 conv=>whnf
 refine ⟨he10a,he10b,Zp he10x ?_⟩
 conv=>whnf
 refine ⟨by kernel_rfl,?_⟩
 conv=>whnf
 refine ⟨by decide,?_⟩
 conv=>whnf
 refine ⟨he10a,he10b,Zp he10x ?_⟩
 conv=>whnf
 cases h
 exact ⟨⟨rfl,rfl⟩,hI6 _ rfl⟩
 conv=>whnf
 cases h
 obtain rfl:=hR6 _ rfl
 exact hK
 conv=>whnf
 refine Yj h ?_
 rintro I11 μ11 ⟨v1,l1,⟨⟩⟩ zs11 h hI11 hR11
 change Qa a1 v1 l1=some zs11 at h
 unfold Qa at h
 conv=>whnf
 refine Zz h (fun h=>?_) (fun h=>?_)
 conv=>whnf
 refine vAt h (fun x0 he12a he12b he12x h=>?_)
 conv=>whnf
 refine Yb ?_
 refine Zz h (fun h=>?_) (fun h=>?_)
 conv=>whnf
 refine Zl h (fun isNet0 hb13 h=>?_)
 conv=>whnf
 refine Yb ?_
 refine YJ h (fun h=>?_) (fun h=>?_)
 conv=>whnf
 refine Zz h (fun h=>?_) (fun h=>?_)
 conv=>whnf
 refine vAt h (fun x1 he14a he14b he14x h=>?_)
 conv=>whnf
 refine ⟨by kernel_rfl,?_⟩
 conv=>whnf
 refine ⟨he14a,he14b,Zp he14x ?_⟩
 conv=>whnf
 refine ⟨he14a,he14b,Zp he14x ?_⟩
 conv=>whnf
 refine ⟨by kernel_rfl,?_⟩
 conv=>whnf
 refine ⟨by decide,?_⟩
 conv=>whnf
 refine ⟨he14a,he14b,Zp he14x ?_⟩
 conv=>whnf
 cases h
 exact ⟨⟨rfl,rfl⟩,hI11 _ rfl⟩
 conv=>whnf
 cases h
 exact ⟨⟨rfl,rfl⟩,hI11 _ rfl⟩
 conv=>whnf
 cases h
 obtain rfl:=hR11 _ rfl
 obtain rfl:=hR6 _ rfl
 exact hK
 conv=>whnf
 refine ZeX ?_
 refine Zz h (fun h=>?_) (fun h=>?_)
 conv=>whnf
 refine Zl h (fun isNet0 hb15 h=>?_)
 conv=>whnf
 refine Yb ?_
 refine YJ h (fun h=>?_) (fun h=>?_)
 conv=>whnf
 refine Zz h (fun h=>?_) (fun h=>?_)
 conv=>whnf
 refine vAt h (fun x1 he16a he16b he16x h=>?_)
 conv=>whnf
 refine ⟨by kernel_rfl,?_⟩
 conv=>whnf
 refine ⟨he16a,he16b,Zp he16x ?_⟩
 conv=>whnf
 refine ⟨he16a,he16b,Zp he16x ?_⟩
 conv=>whnf
 refine ⟨by kernel_rfl,?_⟩
 conv=>whnf
 refine ⟨by decide,?_⟩
 conv=>whnf
 refine ⟨he16a,he16b,Zp he16x ?_⟩
 conv=>whnf
 cases h
 exact ⟨⟨rfl,rfl⟩,hI11 _ rfl⟩
 conv=>whnf
 cases h
 exact ⟨⟨rfl,rfl⟩,hI11 _ rfl⟩
 conv=>whnf
 cases h
 obtain rfl:=hR11 _ rfl
 obtain rfl:=hR6 _ rfl
 exact hK
 conv=>whnf
 cases h
 obtain rfl:=hR11 _ rfl
 obtain rfl:=hR6 _ rfl
 exact hK
 conv=>whnf
 refine Zl h (fun c1_0 hb17 h=>?_)
 conv=>whnf
 cases h
 obtain rfl:=hR11 _ rfl
 obtain rfl:=hR6 _ rfl
 exact hK
 conv=>whnf
 cases h
 exact hK
 conv=>whnf
 cases h
 exact hK
theorem ZCA (q0:Zc Tryz.prog 136 c98) (q3:Zc Tryz.prog 137 c90) (q1:Zc Tryz.prog 138 c141) (q2:Zc Tryz.prog 139 ZvC):Zc Tryz.prog 71 Zwq:=by
 refine Zg Zr (Ze q0 (Ze q3 (Ze q1 (Ze q2 Zj)))) mixed {} (fn:=Tryz.f71) Tryz.func71 (by kernel_rfl) (by kernel_rfl) ?_
 rintro ⟨w0,sinks0,⟨⟩⟩ K ⟨r,h,hK⟩
 change Zc0 w0 sinks0=some r at h
 unfold Zc0 at h
 conv=>whnf
 refine Zl h (fun int64_0 hb0 h=>?_)
 conv=>whnf
 refine Zl h (fun within0 hb1 h=>?_)
 conv=>whnf
 refine YJ h (fun h=>?_) (fun h=>?_)
 conv=>whnf
 refine Zl h (fun int64_1 hb2 h=>?_)
 conv=>whnf
 refine Zz h (fun h=>?_) (fun h=>?_)
 conv=>whnf
 refine Zl h (fun int64_2 hb3 h=>?_)
 conv=>whnf
 refine Zz h (fun h=>?_) (fun h=>?_)
 conv=>whnf
 refine Zl h (fun isTree0 hb4 h=>?_)
 conv=>whnf
 refine YJ h (fun h=>?_) (fun h=>?_)
 conv=>whnf
 refine Zl h (fun areWithin0 hb5 h=>?_)
 conv=>whnf
 refine YJ h (fun h=>?_) (fun h=>?_)
 conv=>whnf
 refine Zl h (fun areWithin1 hb6 h=>?_)
 conv=>whnf
 refine YJ h (fun h=>?_) (fun h=>?_)
 conv=>whnf
 refine Zl h (fun int64_3 hb7 h=>?_)
 conv=>whnf
 refine Zz h (fun h=>?_) (fun h=>?_)
 conv=>whnf
 refine Zl h (fun areWithin2 hb8 h=>?_)
 conv=>whnf
 cases h
 exact hK
 conv=>whnf
 cases h
 exact hK
 conv=>whnf
 cases h
 exact hK
 conv=>whnf
 cases h
 exact hK
 conv=>whnf
 cases h
 exact hK
 conv=>whnf
 cases h
 exact hK
 conv=>whnf
 cases h
 exact hK
 conv=>whnf
 cases h
 exact hK
theorem w96 (q2:Zc Tryz.prog 137 c90) (q0:Zc Tryz.prog 244 c92) (q1:Zc Tryz.prog 187 c95):Zc Tryz.prog 218 c96:=by
 refine Zg Zr (Ze q2 (Ze q0 (Ze q1 Zj))) mixed {loops:=[(0,[.reg 3 (.own (.ol 9 (.flat (.str)))),.reg 8 (.dat (.int .i64))])]} (fn:=Tryz.f218) Tryz.func218 (by kernel_rfl) (by kernel_rfl) ?_
 rintro ⟨list0,⟨⟩⟩ K ⟨r,h,hK⟩
 change Zdf list0=some r at h
 unfold Zdf at h
 conv=>whnf
 refine Yj h ?_
 rintro I0 μ0 ⟨names0,v0,⟨⟩⟩ zs0 h hI0 hR0
 change QE list0 names0 v0=some zs0 at h
 unfold QE at h
 conv=>whnf
 refine Zz h (fun h=>?_) (fun h=>?_)
 conv=>whnf
 refine vAt h (fun x0 he1a he1b he1x h=>?_)
 conv=>whnf
 refine Qt h (fun hp2 h=>?_)
 conv=>whnf
 refine Zz h (fun h=>?_) (fun h=>?_)
 conv=>whnf
 refine ZeX ?_
 refine Zz h (fun h=>?_) (fun h=>?_)
 conv=>whnf
 refine ZeX ?_
 refine Zz h (fun h=>?_) (fun h=>?_)
 conv=>whnf
 refine YJ h (fun h=>?_) (fun h=>?_)
 conv=>whnf
 cases h
 obtain rfl:=hR0 _ rfl
 exact hK
 conv=>whnf
 cases h
 exact ⟨⟨rfl,rfl⟩,hI0 _ rfl⟩
 conv=>whnf
 cases h
 obtain rfl:=hR0 _ rfl
 exact hK
 conv=>whnf
 cases h
 obtain rfl:=hR0 _ rfl
 exact hK
 conv=>whnf
 refine ZeX ?_
 refine Zz h (fun h=>?_) (fun h=>?_)
 conv=>whnf
 refine Zl h (fun within0 hb3 h=>?_)
 conv=>whnf
 refine Yb ?_
 refine YJ h (fun h=>?_) (fun h=>?_)
 conv=>whnf
 cases h
 exact ⟨⟨rfl,rfl⟩,hI0 _ rfl⟩
 conv=>whnf
 cases h
 obtain rfl:=hR0 _ rfl
 exact hK
 conv=>whnf
 cases h
 obtain rfl:=hR0 _ rfl
 exact hK
 conv=>whnf
 refine Zl h (fun Pin0 hb4 h=>?_)
 conv=>whnf
 refine Zl h (fun within0 hb5 h=>?_)
 conv=>whnf
 refine YJ h (fun h=>?_) (fun h=>?_)
 conv=>whnf
 refine Zl h (fun areNames0 hb6 h=>?_)
 conv=>whnf
 cases h
 obtain rfl:=hR0 _ rfl
 exact hK
 conv=>whnf
 cases h
 obtain rfl:=hR0 _ rfl
 exact hK
theorem ZBN (q0:Zc Tryz.prog 159 c145):Zc Tryz.prog 198 ZxR:=by
 refine Zg YO (Ze q0 Zj) mixed {loops:=[(0,[.reg 3 (.own (.ol 263 (ZeJ))),.reg 8 (.dat (.int .i64))])],draws:=[(5,[0,0,2,6,0,16,62,0,128,510,1022,2046,4095,8191],.op 0 (.op 1 (.op 2 (.op 4 (.op 5 (.op 7 (.op 8 (.alt 3 (.alt 6 (.alt 9 (.op 10 (.alt 11 (.alt 12 (.op 13 (.done)) (.done)) (.done))) (.done)) (.done)) (.done)))))))))]} (fn:=Tryz.f198) Tryz.func198 (by kernel_rfl) (by kernel_rfl) ?_
 rintro ⟨list0,⟨⟩⟩ K ⟨r,h,hK⟩
 change VN list0=some r at h
 unfold VN at h
 conv=>whnf
 refine Yj h ?_
 rintro I0 μ0 ⟨out0,v0,⟨⟩⟩ zs0 h hI0 hR0
 change XJ list0 out0 v0=some zs0 at h
 unfold XJ at h
 conv=>whnf
 intro fp1
 conv=>whnf
 refine Zz h (fun h=>?_) (fun h=>?_)
 conv=>whnf
 refine vAt h (fun x0 he2a he2b he2x h=>?_)
 conv=>whnf
 refine ⟨by kernel_rfl,?_⟩
 conv=>whnf
 refine Zl h (fun int64_0 hb3 h=>?_)
 conv=>whnf
 refine Zl h (fun int64_1 hb4 h=>?_)
 conv=>whnf
 refine Zl h (fun int64_2 hb5 h=>?_)
 conv=>whnf
 intro fp6
 conv=>whnf
 refine Qt h (fun hp7 h=>?_)
 conv=>whnf
 intro fp8
 conv=>whnf
 refine ⟨trivial,?_⟩
 conv=>whnf
 cases h
 exact ⟨⟨rfl,rfl⟩,hI0 _ rfl⟩
 conv=>whnf
 cases h
 obtain rfl:=hR0 _ rfl
 exact hK
theorem w97:Zc Tryz.prog 261 c97:=by
 refine Zg Zr Zj mixed {} (fn:=Tryz.f261) Tryz.func261 (by kernel_rfl) (by kernel_rfl) ?_
 rintro ⟨kind0,⟨⟩⟩ K ⟨r,h,hK⟩
 change Zc7 kind0=some r at h
 unfold Zc7 at h
 conv=>whnf
 refine Zk4 h (fun h=>?_) (fun h=>?_)
 conv=>whnf
 cases h
 exact hK
 conv=>whnf
 cases h
 exact hK
theorem Zz8:Zc Tryz.prog 156 c130:=by
 refine Zg Zr Zj mixed {} (fn:=Tryz.f156) Tryz.func156 (by kernel_rfl) (by kernel_rfl) ?_
 rintro ⟨list0,⟨⟩⟩ K ⟨r,h,hK⟩
 change YS list0=some r at h
 unfold YS at h
 conv=>whnf
 cases h
 exact hK
theorem w_laws_FnExactInverseEdits (q5:Zc Tryz.prog 7 c18) (q6:Zc Tryz.prog 8 c20) (q7:Zc Tryz.prog 10 c39) (q8:Zc Tryz.prog 11 c41) (q0:Zc Tryz.prog 9 c89) (q1:Zc Tryz.prog 12 Zyy) (q9:Zc Tryz.prog 13 ZxV) (q10:Zc Tryz.prog 14 c206) (q2:Zc Tryz.prog 15 Zxf) (q3:Zc Tryz.prog 16 Zye) (q4:Zc Tryz.prog 17 c222):Zc Tryz.prog 3 Zcu:=by
 refine Zg Zr (Ze q5 (Ze q6 (Ze q7 (Ze q8 (Ze q0 (Ze q1 (Ze q9 (Ze q10 (Ze q2 (Ze q3 (Ze q4 Zj))))))))))) mixed {draws:=[(14,[0,0,2,7,15],.op 0 (.op 1 (.alt 2 (.alt 3 (.op 4 (.done)) (.done)) (.done))))]} (fn:=Tryz.f3) Tryz.func3 (by kernel_rfl) (by kernel_rfl) ?_
 rintro ⟨a0,a1,⟨⟩⟩ K ⟨r,h,hK⟩
 change Qp a0 a1=some r at h
 unfold Qp at h
 conv=>whnf
 refine Zl h (fun szBlock0 hb0 h=>?_)
 conv=>whnf
 refine Zz h (fun h=>?_) (fun h=>?_)
 conv=>whnf
 cases h
 exact hK
 conv=>whnf
 refine Zl h (fun szEditS0 hb1 h=>?_)
 conv=>whnf
 refine Zz h (fun h=>?_) (fun h=>?_)
 conv=>whnf
 cases h
 exact hK
 conv=>whnf
 refine Zl h (fun toBlock0 hb2 h=>?_)
 conv=>whnf
 intro fp3
 conv=>whnf
 intro fp4
 conv=>whnf
 intro fp5
 conv=>whnf
 refine Zl h (fun toEditS0 hb6 h=>?_)
 conv=>whnf
 intro fp7
 conv=>whnf
 refine Zl h (fun InverseEdits0 hb8 h=>?_)
 conv=>whnf
 refine ⟨_,hb2,?_⟩
 conv=>whnf
 intro fp9
 conv=>whnf
 intro fp10
 conv=>whnf
 intro fp11
 conv=>whnf
 refine ⟨_,hb6,?_⟩
 conv=>whnf
 intro fp12
 conv=>whnf
 refine Zl h (fun InverseEdits1 hb13 h=>?_)
 conv=>whnf
 intro fp14
 conv=>whnf
 refine Zl h (fun eqEditS0 hb15 h=>?_)
 conv=>whnf
 refine ZeX ?_
 refine YJ h (fun h=>?_) (fun h=>?_)
 conv=>whnf
 refine Yb ?_
 refine Zz h (fun h=>?_) (fun h=>?_)
 conv=>whnf
 refine ⟨by kernel_rfl,?_⟩
 conv=>whnf
 refine ⟨_,hb2,?_⟩
 conv=>whnf
 intro fp16
 conv=>whnf
 intro fp17
 conv=>whnf
 intro fp18
 conv=>whnf
 refine Zl h (fun eqBlock0 hb19 h=>?_)
 conv=>whnf
 refine ⟨trivial,?_⟩
 conv=>whnf
 refine Yb ?_
 refine YJ h (fun h=>?_) (fun h=>?_)
 conv=>whnf
 refine ⟨_,hb6,?_⟩
 conv=>whnf
 intro fp20
 conv=>whnf
 refine Zl h (fun eqEditS1 hb21 h=>?_)
 conv=>whnf
 refine Yb ?_
 refine YJ h (fun h=>?_) (fun h=>?_)
 conv=>whnf
 refine Zl h (fun markBlock0 hb22 h=>?_)
 conv=>whnf
 intro fp23
 conv=>whnf
 intro fp24
 conv=>whnf
 intro fp25
 conv=>whnf
 refine Zl h (fun markEditS0 hb26 h=>?_)
 conv=>whnf
 intro fp27
 conv=>whnf
 refine Zk4 h (fun h=>?_) (fun h=>?_)
 conv=>whnf
 cases h
 exact hK
 conv=>whnf
 refine ⟨_,hb15,?_⟩
 conv=>whnf
 refine ZeX ?_
 refine YJ h (fun h=>?_) (fun h=>?_)
 conv=>whnf
 refine Yb ?_
 refine Zz h (fun h=>?_) (fun h=>?_)
 conv=>whnf
 refine Zl h (fun markEditS1 hb28 h=>?_)
 conv=>whnf
 intro fp29
 conv=>whnf
 refine Zl h (fun heldEditS0 hb30 h=>?_)
 conv=>whnf
 refine Zz h (fun h=>?_) (fun h=>?_)
 conv=>whnf
 cases h
 exact hK
 conv=>whnf
 refine Yb ?_
 refine Zz h (fun h=>?_) (fun h=>?_)
 conv=>whnf
 refine ⟨_,hb2,?_⟩
 conv=>whnf
 intro fp31
 conv=>whnf
 intro fp32
 conv=>whnf
 intro fp33
 conv=>whnf
 refine ⟨_,hb6,?_⟩
 conv=>whnf
 intro fp34
 conv=>whnf
 refine ⟨_,hb13,?_⟩
 conv=>whnf
 intro fp35
 conv=>whnf
 refine ⟨_,hb15,?_⟩
 conv=>whnf
 refine ZeX ?_
 refine YJ h (fun h=>?_) (fun h=>?_)
 conv=>whnf
 refine Yb ?_
 refine Zz h (fun h=>?_) (fun h=>?_)
 conv=>whnf
 refine ⟨_,hb30,?_⟩
 conv=>whnf
 refine Zz h (fun h=>?_) (fun h=>?_)
 conv=>whnf
 cases h
 exact hK
 conv=>whnf
 refine Yb ?_
 refine Zz h (fun h=>?_) (fun h=>?_)
 conv=>whnf
 cases h
 exact hK
 conv=>whnf
 cases h
 exact hK
 conv=>whnf
 cases h
 exact hK
 conv=>whnf
 cases h
 exact hK
 conv=>whnf
 cases h
 exact hK
 conv=>whnf
 cases h
 exact hK
 conv=>whnf
 cases h
 exact hK
 conv=>whnf
 cases h
 exact hK
 conv=>whnf
 cases h
 exact hK
 conv=>whnf
 cases h
 exact hK
 conv=>whnf
 cases h
 exact hK
theorem Zz9 (q0:Zc Tryz.prog 93 ZxO) (q1:Zc Tryz.prog 94 c201) (q2:Zc Tryz.prog 95 c203):Zc Tryz.prog 44 Zyj:=by
 refine Zg Zr (Ze q0 (Ze q1 (Ze q2 Zj))) mixed {} (fn:=Tryz.f44) Tryz.func44 (by kernel_rfl) (by kernel_rfl) ?_
 rintro ⟨a0,b0,⟨⟩⟩ K ⟨r,h,hK⟩
 change Zci a0 b0=some r at h
 unfold Zci at h
 conv=>whnf
 refine Zl h (fun eqInstanceS0 hb0 h=>?_)
 conv=>whnf
 refine Yb ?_
 refine YJ h (fun h=>?_) (fun h=>?_)
 conv=>whnf
 refine Zl h (fun eqStringS0 hb1 h=>?_)
 conv=>whnf
 refine Yb ?_
 refine YJ h (fun h=>?_) (fun h=>?_)
 conv=>whnf
 refine Zl h (fun eqPortS0 hb2 h=>?_)
 conv=>whnf
 refine Yb ?_
 refine YJ h (fun h=>?_) (fun h=>?_)
 conv=>whnf
 cases h
 exact hK
 conv=>whnf
 cases h
 exact hK
 conv=>whnf
 cases h
 exact hK
 conv=>whnf
 cases h
 exact hK
theorem ZAy (q0:Zc Tryz.prog 22 Zx5):Zc Tryz.prog 13 ZxV:=by
 refine Zg Zr (Ze q0 Zj) mixed {loops:=[(0,[.reg 5 (.dat (.int .i64))])],draws:=[(6,[0,0,3,7,0,0,48,112,255,511],.op 0 (.op 1 (.op 2 (.op 3 (.op 4 (.op 5 (.op 6 (.op 7 (.alt 8 (.op 9 (.done)) (.done))))))))))]} (fn:=Tryz.f13) Tryz.func13 (by kernel_rfl) (by kernel_rfl) ?_
 rintro ⟨a0,b0,⟨⟩⟩ K ⟨r,h,hK⟩
 change ZbU a0 b0=some r at h
 unfold ZbU at h
 conv=>whnf
 refine Yb ?_
 refine Zz h (fun h=>?_) (fun h=>?_)
 conv=>whnf
 refine Yj h ?_
 rintro I0 μ0 ⟨i0,⟨⟩⟩ zs0 h hI0 hR0
 change ZdP a0 b0 i0=some zs0 at h
 unfold ZdP at h
 conv=>whnf
 refine Zz h (fun h=>?_) (fun h=>?_)
 conv=>whnf
 refine ⟨by kernel_rfl,?_⟩
 conv=>whnf
 refine vAt h (fun x0 he1a he1b he1x h=>?_)
 conv=>whnf
 refine vAt h (fun x1 he2a he2b he2x h=>?_)
 conv=>whnf
 refine Zl h (fun eqEdit0 hb3 h=>?_)
 conv=>whnf
 refine ⟨trivial,?_⟩
 conv=>whnf
 refine Yb ?_
 refine YJ h (fun h=>?_) (fun h=>?_)
 conv=>whnf
 cases h
 exact ⟨⟨rfl,rfl⟩,hI0 _ rfl⟩
 conv=>whnf
 cases h
 obtain rfl:=hR0 _ rfl
 exact hK
 conv=>whnf
 cases h
 obtain rfl:=hR0 _ rfl
 exact hK
 conv=>whnf
 cases h
 exact hK
theorem Zy0 (q0:Zc Tryz.prog 92 Zx4):Zc Tryz.prog 43 c198:=by
 refine Zg Zr (Ze q0 Zj) mixed {} (fn:=Tryz.f43) Tryz.func43 (by kernel_rfl) (by kernel_rfl) ?_
 rintro ⟨a0,b0,⟨⟩⟩ K ⟨r,h,hK⟩
 change Zbm a0 b0=some r at h
 unfold Zbm at h
 conv=>whnf
 refine Zl h (fun eqCellS0 hb0 h=>?_)
 conv=>whnf
 refine Yb ?_
 refine YJ h (fun h=>?_) (fun h=>?_)
 conv=>whnf
 cases h
 exact hK
 conv=>whnf
 cases h
 exact hK
theorem ZBp:Zc Tryz.prog 94 c201:=by
 refine Zg Zr Zj mixed {loops:=[(0,[.reg 5 (.dat (.int .i64))])],draws:=[(6,[0,0,3,7,0,0,48,112,255],.op 0 (.op 1 (.op 2 (.op 3 (.op 4 (.op 5 (.op 6 (.op 7 (.op 8 (.done))))))))))]} (fn:=Tryz.f94) Tryz.func94 (by kernel_rfl) (by kernel_rfl) ?_
 rintro ⟨a0,b0,⟨⟩⟩ K ⟨r,h,hK⟩
 change Zbl a0 b0=some r at h
 unfold Zbl at h
 conv=>whnf
 refine Yb ?_
 refine Zz h (fun h=>?_) (fun h=>?_)
 conv=>whnf
 refine Yj h ?_
 rintro I0 μ0 ⟨i0,⟨⟩⟩ zs0 h hI0 hR0
 change Zcv a0 b0 i0=some zs0 at h
 unfold Zcv at h
 conv=>whnf
 refine Zz h (fun h=>?_) (fun h=>?_)
 conv=>whnf
 refine ⟨by kernel_rfl,?_⟩
 conv=>whnf
 refine vAt h (fun x0 he1a he1b he1x h=>?_)
 conv=>whnf
 refine vAt h (fun x1 he2a he2b he2x h=>?_)
 conv=>whnf
 refine ⟨trivial,?_⟩
 conv=>whnf
 refine Yb ?_
 refine Zz h (fun h=>?_) (fun h=>?_)
 conv=>whnf
 cases h
 exact ⟨⟨rfl,rfl⟩,hI0 _ rfl⟩
 conv=>whnf
 cases h
 obtain rfl:=hR0 _ rfl
 exact hK
 conv=>whnf
 cases h
 obtain rfl:=hR0 _ rfl
 exact hK
 conv=>whnf
 cases h
 exact hK
theorem ZzG (q0:Zc Tryz.prog 108 ZvF):Zc Tryz.prog 269 ZxN:=by
 refine Zg Zr (Ze q0 Zj) mixed {} (fn:=Tryz.f269) Tryz.func269 (by kernel_rfl) (by kernel_rfl) ?_
 rintro ⟨a0,b0,⟨⟩⟩ K ⟨r,h,hK⟩
 change ZbX a0 b0=some r at h
 unfold ZbX at h
 conv=>whnf
 refine Zl h (fun eqInt64S0 hb0 h=>?_)
 conv=>whnf
 refine Yb ?_
 refine YJ h (fun h=>?_) (fun h=>?_)
 conv=>whnf
 refine Zl h (fun eqInt64S1 hb1 h=>?_)
 conv=>whnf
 refine Yb ?_
 refine YJ h (fun h=>?_) (fun h=>?_)
 conv=>whnf
 refine Zl h (fun eqInt64S2 hb2 h=>?_)
 conv=>whnf
 refine Yb ?_
 refine YJ h (fun h=>?_) (fun h=>?_)
 conv=>whnf
 cases h
 exact hK
 conv=>whnf
 cases h
 exact hK
 conv=>whnf
 cases h
 exact hK
 conv=>whnf
 cases h
 exact hK
theorem Zy6 (q0:Zc Tryz.prog 50 Zu3):Zc Tryz.prog 204 c210:=by
 refine Zg YO (Ze q0 Zj) mixed {loops:=[(0,[.reg 1 (.dat (.int .i64)),.reg 5 (.dat (.int .i64)),.ent 0 (nat_lit 263) (Dp.pair (Dp.ol (2:Go.TypeId) (Dp.flat (Ty.int IntKind.i64))) (Dp.pair (Dp.ol (2:Go.TypeId) (Dp.flat (Ty.int IntKind.i64))) (Dp.pair (Dp.ol (2:Go.TypeId) (Dp.flat (Ty.int IntKind.i64))) (Dp.flat Ty.unit))))])]} (fn:=Tryz.f204) Tryz.func204 (by kernel_rfl) (by kernel_rfl) ?_
 rintro ⟨a0,k0,⟨⟩⟩ K ⟨r,h,hK⟩
 change Jw a0 k0=some r at h
 unfold Jw at h
 conv=>whnf
 intro fp0
 conv=>whnf
 refine Yj h ?_
 rintro I1 μ1 ⟨k1,i0,l0,⟨⟩⟩ zs1 h hI1 hR1
 change Vw k1 i0 l0=some zs1 at h
 unfold Vw at h
 conv=>whnf
 intro fp2
 conv=>whnf
 refine Zz h (fun h=>?_) (fun h=>?_)
 conv=>whnf
 refine vAt h (fun x0 he3a he3b he3x h=>?_)
 conv=>whnf
 refine ⟨he3a,he3b,Zp he3x ?_⟩
 conv=>whnf
 intro fp4
 conv=>whnf
 refine Zl h (fun markInt64S0 hb5 h=>?_)
 conv=>whnf
 refine ⟨he3a,he3b,Zp he3x ?_⟩
 conv=>whnf
 refine .inl ⟨rfl,?_⟩
 conv=>whnf
 refine Zl h (fun markInt64S1 hb6 h=>?_)
 conv=>whnf
 refine ⟨he3a,he3b,Zp he3x ?_⟩
 conv=>whnf
 refine .inl ⟨rfl,?_⟩
 conv=>whnf
 refine Zl h (fun markInt64S2 hb7 h=>?_)
 conv=>whnf
 cases h
 exact ⟨⟨rfl,rfl⟩,hI1 _ rfl⟩
 conv=>whnf
 cases h
 obtain rfl:=hR1 _ rfl
 exact hK
theorem Zz7:Zc Tryz.prog 49 ZtG:=by
 refine Zg Zr Zj mixed {loops:=[(0,[.reg 0 (.dat (.int .i64)),.reg 3 (.dat (.str))])]} (fn:=Tryz.f49) Tryz.func49 (by kernel_rfl) (by kernel_rfl) ?_
 rintro ⟨k0,⟨⟩⟩ K ⟨r,h,hK⟩
 change Xf k0=some r at h
 unfold Xf at h
 conv=>whnf
 refine Zz h (fun h=>?_) (fun h=>?_)
 conv=>whnf
 cases h
 exact hK
 conv=>whnf
 refine Yj h ?_
 rintro I0 μ0 ⟨k1,out0,⟨⟩⟩ zs0 h hI0 hR0
 change JH k1 out0=some zs0 at h
 unfold JH at h
 conv=>whnf
 refine Zz h (fun h=>?_) (fun h=>?_)
 conv=>whnf
 refine ⟨by decide,?_⟩
 conv=>whnf
 refine Qt h (fun hp1 h=>?_)
 conv=>whnf
 refine ⟨by decide,?_⟩
 conv=>whnf
 cases h
 exact ⟨⟨rfl,rfl⟩,hI0 _ rfl⟩
 conv=>whnf
 refine Qt h (fun hp2 h=>?_)
 conv=>whnf
 cases h
 obtain rfl:=hR0 _ rfl
 exact hK
theorem w20 (q0:Zc Tryz.prog 18 c19):Zc Tryz.prog 8 c20:=by
 refine Zg Zr (Ze q0 Zj) mixed {loops:=[(0,[.reg 1 (.dat (.int .i64)),.reg 5 (.dat (.int .i64))])]} (fn:=Tryz.f8) Tryz.func8 (by kernel_rfl) (by kernel_rfl) ?_
 rintro ⟨a0,left0,⟨⟩⟩ K ⟨r,h,hK⟩
 change ZaS a0 left0=some r at h
 unfold ZaS at h
 conv=>whnf
 refine Zz h (fun h=>?_) (fun h=>?_)
 conv=>whnf
 cases h
 exact hK
 conv=>whnf
 refine Yj h ?_
 rintro I0 μ0 ⟨left1,i0,⟨⟩⟩ zs0 h hI0 hR0
 change ZdH a0 left1 i0=some zs0 at h
 unfold ZdH at h
 conv=>whnf
 refine Zz h (fun h=>?_) (fun h=>?_)
 conv=>whnf
 refine vAt h (fun x0 he1a he1b he1x h=>?_)
 conv=>whnf
 refine Zl h (fun szEdit0 hb2 h=>?_)
 conv=>whnf
 refine Zz h (fun h=>?_) (fun h=>?_)
 conv=>whnf
 cases h
 obtain rfl:=hR0 _ rfl
 exact hK
 conv=>whnf
 cases h
 exact ⟨⟨rfl,rfl⟩,hI0 _ rfl⟩
 conv=>whnf
 cases h
 obtain rfl:=hR0 _ rfl
 exact hK
theorem w10 (q0:Zc Tryz.prog 100 c2):Zc Tryz.prog 142 c10:=by
 refine Zg Zr (Ze q0 Zj) mixed {} (fn:=Tryz.f142) Tryz.func142 (by kernel_rfl) (by kernel_rfl) ?_
 rintro ⟨a0,left0,⟨⟩⟩ K ⟨r,h,hK⟩
 change XU a0 left0=some r at h
 unfold XU at h
 conv=>whnf
 refine Zz h (fun h=>?_) (fun h=>?_)
 conv=>whnf
 cases h
 exact hK
 conv=>whnf
 refine Zl h (fun szInt64S0 hb0 h=>?_)
 conv=>whnf
 refine Zz h (fun h=>?_) (fun h=>?_)
 conv=>whnf
 cases h
 exact hK
 conv=>whnf
 cases h
 exact hK
theorem w11 (q0:Zc Tryz.prog 142 c10):Zc Tryz.prog 75 c11:=by
 refine Zg Zr (Ze q0 Zj) mixed {loops:=[(0,[.reg 1 (.dat (.int .i64)),.reg 5 (.dat (.int .i64))])]} (fn:=Tryz.f75) Tryz.func75 (by kernel_rfl) (by kernel_rfl) ?_
 rintro ⟨a0,left0,⟨⟩⟩ K ⟨r,h,hK⟩
 change QU a0 left0=some r at h
 unfold QU at h
 conv=>whnf
 refine Zz h (fun h=>?_) (fun h=>?_)
 conv=>whnf
 cases h
 exact hK
 conv=>whnf
 refine Yj h ?_
 rintro I0 μ0 ⟨left1,i0,⟨⟩⟩ zs0 h hI0 hR0
 change ZbC a0 left1 i0=some zs0 at h
 unfold ZbC at h
 conv=>whnf
 refine Zz h (fun h=>?_) (fun h=>?_)
 conv=>whnf
 refine vAt h (fun x0 he1a he1b he1x h=>?_)
 conv=>whnf
 refine Zl h (fun szInstance0 hb2 h=>?_)
 conv=>whnf
 refine Zz h (fun h=>?_) (fun h=>?_)
 conv=>whnf
 cases h
 obtain rfl:=hR0 _ rfl
 exact hK
 conv=>whnf
 cases h
 exact ⟨⟨rfl,rfl⟩,hI0 _ rfl⟩
 conv=>whnf
 cases h
 obtain rfl:=hR0 _ rfl
 exact hK
theorem w39 (q0:Zc Tryz.prog 39 c30) (q1:Zc Tryz.prog 40 c36) (q2:Zc Tryz.prog 41 c38):Zc Tryz.prog 10 c39:=by
 refine Zg YO (Ze q0 (Ze q1 (Ze q2 Zj))) mixed {} (fn:=Tryz.f10) Tryz.func10 (by kernel_rfl) (by kernel_rfl) ?_
 rintro ⟨a0,⟨⟩⟩ K ⟨r,h,hK⟩
 change Zdb a0=some r at h
 unfold Zdb at h
 conv=>whnf
 refine Zl h (fun toLibrary0 hb0 h=>?_)
 conv=>whnf
 intro fp1
 conv=>whnf
 refine Zl h (fun toDesign0 hb2 h=>?_)
 conv=>whnf
 intro fp3
 conv=>whnf
 refine Zl h (fun toWireS0 hb4 h=>?_)
 conv=>whnf
 intro fp5
 conv=>whnf
 cases h
 exact hK
theorem w28 (q1:Zc Tryz.prog 194 c22) (q2:Zc Tryz.prog 195 c27) (q0:Zc Tryz.prog 101 c23):Zc Tryz.prog 146 c28:=by
 refine Zg YO (Ze q1 (Ze q2 (Ze q0 Zj))) mixed {} (fn:=Tryz.f146) Tryz.func146 (by kernel_rfl) (by kernel_rfl) ?_
 rintro ⟨a0,⟨⟩⟩ K ⟨r,h,hK⟩
 change ZcP a0=some r at h
 unfold ZcP at h
 conv=>whnf
 refine Zl h (fun toPinS0 hb0 h=>?_)
 conv=>whnf
 refine Zl h (fun toArcS0 hb1 h=>?_)
 conv=>whnf
 intro fp2
 conv=>whnf
 refine Zl h (fun toInt64S0 hb3 h=>?_)
 conv=>whnf
 cases h
 exact hK
theorem w40 (q0:Zc Tryz.prog 53 c37):Zc Tryz.prog 20 c40:=by
 refine Zg Zr (Ze q0 Zj) mixed {} (fn:=Tryz.f20) Tryz.func20 (by kernel_rfl) (by kernel_rfl) ?_
 rintro ⟨a0,⟨⟩⟩ K ⟨r,h,hK⟩
 change ZcW a0=some r at h
 unfold ZcW at h
 conv=>whnf
 refine Zl h (fun toWire0 hb0 h=>?_)
 conv=>whnf
 cases h
 exact hK
theorem w30 (q0:Zc Tryz.prog 86 c29):Zc Tryz.prog 39 c30:=by
 refine Zg YO (Ze q0 Zj) mixed {} (fn:=Tryz.f39) Tryz.func39 (by kernel_rfl) (by kernel_rfl) ?_
 rintro ⟨a0,⟨⟩⟩ K ⟨r,h,hK⟩
 change Zbx a0=some r at h
 unfold Zbx at h
 conv=>whnf
 refine Zl h (fun toCellS0 hb0 h=>?_)
 conv=>whnf
 intro fp1
 conv=>whnf
 cases h
 exact hK
theorem w34:Zc Tryz.prog 148 c34:=by
 refine Zg Zr Zj mixed {} (fn:=Tryz.f148) Tryz.func148 (by kernel_rfl) (by kernel_rfl) ?_
 rintro ⟨a0,⟨⟩⟩ K ⟨r,h,hK⟩
 change ZcY a0=some r at h
 unfold ZcY at h
 conv=>whnf
 cases h
 exact hK
theorem w37 (q0:Zc Tryz.prog 101 c23):Zc Tryz.prog 53 c37:=by
 refine Zg Zr (Ze q0 Zj) mixed {} (fn:=Tryz.f53) Tryz.func53 (by kernel_rfl) (by kernel_rfl) ?_
 rintro ⟨a0,⟨⟩⟩ K ⟨r,h,hK⟩
 change ZbP a0=some r at h
 unfold ZbP at h
 conv=>whnf
 refine Zl h (fun toInt64S0 hb0 h=>?_)
 conv=>whnf
 refine Zl h (fun toInt64S1 hb1 h=>?_)
 conv=>whnf
 refine Zl h (fun toInt64S2 hb2 h=>?_)
 conv=>whnf
 refine Zl h (fun toInt64S3 hb3 h=>?_)
 conv=>whnf
 cases h
 exact hK
theorem Zzb (q0:Zc Tryz.prog 189 Zxr):Zc Tryz.prog 222 ZxC:=by
 refine Zg Zr (Ze q0 Zj) mixed {loops:=[(0,[.reg 8 (.dat (.int .i64))])]} (fn:=Tryz.f222) Tryz.func222 (by kernel_rfl) (by kernel_rfl) ?_
 rintro ⟨s0,f0,⟨⟩⟩ K ⟨r,h,hK⟩
 change ZN s0 f0=some r at h
 unfold ZN at h
 conv=>whnf
 refine Yj h ?_
 rintro I0 μ0 ⟨v0,⟨⟩⟩ zs0 h hI0 hR0
 change ZU s0 f0 v0=some zs0 at h
 unfold ZU at h
 conv=>whnf
 refine Zz h (fun h=>?_) (fun h=>?_)
 conv=>whnf
 refine vAt h (fun x0 he1a he1b he1x h=>?_)
 conv=>whnf
 refine Zl h (fun c1_0 hb2 h=>?_)
 conv=>whnf
 refine YJ h (fun h=>?_) (fun h=>?_)
 conv=>whnf
 cases h
 obtain rfl:=hR0 _ rfl
 exact hK
 conv=>whnf
 cases h
 exact ⟨⟨rfl,rfl⟩,hI0 _ rfl⟩
 conv=>whnf
 cases h
 obtain rfl:=hR0 _ rfl
 exact hK
theorem ZAF (q0:Zc Tryz.prog 135 Zxn):Zc Tryz.prog 190 ZxK:=by
 refine Zg Zr (Ze q0 Zj) mixed {loops:=[(0,[.reg 8 (.dat (.int .i64))])]} (fn:=Tryz.f190) Tryz.func190 (by kernel_rfl) (by kernel_rfl) ?_
 rintro ⟨s0,f0,⟨⟩⟩ K ⟨r,h,hK⟩
 change Yf s0 f0=some r at h
 unfold Yf at h
 conv=>whnf
 refine Yj h ?_
 rintro I0 μ0 ⟨v0,⟨⟩⟩ zs0 h hI0 hR0
 change Yg s0 v0=some zs0 at h
 unfold Yg at h
 conv=>whnf
 refine Zz h (fun h=>?_) (fun h=>?_)
 conv=>whnf
 refine vAt h (fun x0 he1a he1b he1x h=>?_)
 conv=>whnf
 refine Zl h (fun c1_0 hb2 h=>?_)
 conv=>whnf
 refine YJ h (fun h=>?_) (fun h=>?_)
 conv=>whnf
 cases h
 obtain rfl:=hR0 _ rfl
 exact hK
 conv=>whnf
 cases h
 exact ⟨⟨rfl,rfl⟩,hI0 _ rfl⟩
 conv=>whnf
 cases h
 obtain rfl:=hR0 _ rfl
 exact hK
theorem w87 (q1:Zc Tryz.prog 60 c59) (q2:Zc Tryz.prog 61 c67) (q0:Zc Tryz.prog 19 c86):Zc Tryz.prog 25 c87:=by
 refine Zg YO (Ze q1 (Ze q2 (Ze q0 Zj))) mixed {loops:=[(0,[.reg 8 (.dat (.int .i64)),.cello 1004 0 (.ol 169 (Zjc)),.cello 1004 1 (.ol 124 (ZaN)),.cello 1004 2 (.ol 9 (.flat (.str))),.cello 1004 3 (.ol 178 (.flat (Vz))),.cello 1004 4 (.ol 64 (Zha)),.cello 1007 0 (.ol (nat_lit 169) (Dp.pair (Dp.flat Ty.str) (Dp.pair (Dp.flat (Ty.int IntKind.i64)) (Dp.pair (Dp.ol (218:Go.TypeId) (Dp.flat ZcH)) (Dp.pair (Dp.ol (235:Go.TypeId) ZqC) (Dp.pair (Dp.ol (2:Go.TypeId) (Dp.flat (Ty.int IntKind.i64))) (Dp.pair (Dp.flat (Ty.int IntKind.i64)) (Dp.pair (Dp.flat (Ty.int IntKind.i64)) (Dp.flat Ty.unit))))))))),.cello 1007 1 (.ol (nat_lit 124) (Dp.pair (Dp.flat Ty.str) (Dp.pair (Dp.flat (Ty.int IntKind.i64)) (Dp.pair (Dp.ol (2:Go.TypeId) (Dp.flat (Ty.int IntKind.i64))) (Dp.flat Ty.unit))))),.cello 1007 2 (.ol (nat_lit 9) (.flat Ty.str)),.cello 1007 3 (.ol (nat_lit 178) (.flat Vz)),.cello 1007 4 (.ol (nat_lit 64) (Dp.pair (Dp.ol (2:Go.TypeId) (Dp.flat (Ty.int IntKind.i64))) (Dp.pair (Dp.ol (2:Go.TypeId) (Dp.flat (Ty.int IntKind.i64))) (Dp.pair (Dp.ol (2:Go.TypeId) (Dp.flat (Ty.int IntKind.i64))) (Dp.pair (Dp.ol (2:Go.TypeId) (Dp.flat (Ty.int IntKind.i64))) (Dp.flat Ty.unit))))))])],draws:=[(9,[0,0,0,6,14,31,63,127,127,0,767,2047],.op 0 (.op 1 (.op 2 (.op 3 (.op 4 (.alt 5 (.op 6 (.op 7 (.op 8 (.alt 9 (.alt 10 (.op 11 (.done)) (.done)) (.done))))) (.alt 9 (.alt 5 (.op 6 (.op 7 (.op 8 (.alt 10 (.op 11 (.done)) (.done))))) (.done)) (.done))))))))]} (fn:=Tryz.f25) Tryz.func25 (by kernel_rfl) (by kernel_rfl) ?_
 rintro ⟨b0,list0,⟨⟩⟩ K ⟨r,h,hK⟩
 change ZaK b0 list0=some r at h
 unfold ZaK at h
 conv=>whnf
 refine Zl h (fun IsBlock0 hb0 h=>?_)
 conv=>whnf
 refine Yb ?_
 refine YJ h (fun h=>?_) (fun h=>?_)
 conv=>whnf
 refine Zz h (fun h=>?_) (fun h=>?_)
 conv=>whnf
 cases h
 exact hK
 conv=>whnf
 refine Zl h (fun l07Own0 hb1 h=>?_)
 conv=>whnf
 intro fp2
 conv=>whnf
 intro fp3
 conv=>whnf
 intro fp4
 conv=>whnf
 refine Yj h ?_
 rintro I5 μ5 ⟨i0,c0,c1,c2,c3,c4,c5,c6,c7,c8,c9,⟨⟩⟩ zs5 h hI5 hR5
 change Xp list0 i0 c0 c1 c2 c3 c4 c5 c6 c7 c8 c9=some zs5 at h
 unfold Xp at h
 conv=>whnf
 intro fp6
 conv=>whnf
 intro fp7
 conv=>whnf
 intro fp8
 conv=>whnf
 intro fp9
 conv=>whnf
 intro fp10
 conv=>whnf
 intro fp11
 conv=>whnf
 refine Zz h (fun h=>?_) (fun h=>?_)
 focus
  conv=>whnf
  refine ⟨by kernel_rfl,?_⟩
  conv=>whnf
  refine vAt h (fun x0 he12a he12b he12x h=>?_)
  conv=>whnf
  obtain ⟨ApplyEdit0,hb13,h⟩:=Option.bind_eq_some_iff.1 h
  refine ⟨?_,?_⟩
  rotate_left
  focus
   conv=>whnf
   refine ⟨_,hb13,?_⟩
   conv=>whnf
   intro fp17
   conv=>whnf
   intro fp18
   conv=>whnf
   intro fp19
   conv=>whnf
   refine ⟨trivial,?_⟩
  rotate_right
  focus
   conv=>whnf
   refine ⟨_,hb13,?_⟩
   conv=>whnf
   intro fp17
   conv=>whnf
   intro fp18
   conv=>whnf
   intro fp19
   conv=>whnf
   refine ⟨trivial,?_⟩
  all_goals
   conv=>whnf
   refine Yb ?_
   refine Zz h (fun h=>?_) (fun h=>?_)
   conv=>whnf
   cases h
   exact ⟨⟨rfl,rfl⟩,hI5 _ rfl⟩
   conv=>whnf
   cases h
   obtain rfl:=hR5 _ rfl
   exact hK
 conv=>whnf
 cases h
 obtain rfl:=hR5 _ rfl
 exact hK
 conv=>whnf
 cases h
 exact hK
theorem w55 (q0:Zc Tryz.prog 162 c52) (q1:Zc Tryz.prog 163 c53) (q2:Zc Tryz.prog 164 c54):Zc Tryz.prog 113 c55:=by
 refine Zg Zr (Ze q0 (Ze q1 (Ze q2 Zj))) mixed {loops:=[(0,[.reg 5 (.own (.ol 9 (.flat (.str)))),.reg 6 (.dat (.int .i64))]),(2,[.reg 7 (.own (.ol 9 (.flat (.str)))),.reg 8 (.dat (.int .i64))]),(4,[.reg 10 (.dat (.int .i64)),.ent 6 (nat_lit 2) (.flat Zsa.ety)]),(6,[.reg 12 (.dat (.int .i64)),.ent 6 (nat_lit 2) (.flat Zsa.ety)]),(8,[.reg 13 (.dat (.int .i64))])]} (fn:=Tryz.f113) Tryz.func113 (by kernel_rfl) (by kernel_rfl) ?_
 rintro ⟨a0,a1,⟨⟩⟩ K ⟨r,h,hK⟩
 change Zcd a0 a1=some r at h
 unfold Zcd at h
 conv=>whnf
 refine Zl h (fun IsLibrary0 hb0 h=>?_)
 conv=>whnf
 refine ZeX ?_
 refine YJ h (fun h=>?_) (fun h=>?_)
 conv=>whnf
 refine Zk4 h (fun h=>?_) (fun h=>?_)
 conv=>whnf
 cases h
 exact hK
 conv=>whnf
 refine Zk4 h (fun h=>?_) (fun h=>?_)
 conv=>whnf
 cases h
 exact hK
 conv=>whnf
 refine Zk4 h (fun h=>?_) (fun h=>?_)
 conv=>whnf
 cases h
 exact hK
 conv=>whnf
 refine Zl h (fun l05Parts0 hb1 h=>?_)
 conv=>whnf
 refine Yb ?_
 refine YJ h (fun h=>?_) (fun h=>?_)
 conv=>whnf
 refine Yj h ?_
 rintro I2 μ2 ⟨v0,v1,⟨⟩⟩ zs2 h hI2 hR2
 change JW a1 v0 v1=some zs2 at h
 unfold JW at h
 conv=>whnf
 refine Zz h (fun h=>?_) (fun h=>?_)
 conv=>whnf
 refine vAt h (fun x0 he3a he3b he3x h=>?_)
 conv=>whnf
 refine Qt h (fun hp4 h=>?_)
 conv=>whnf
 cases h
 exact ⟨⟨rfl,rfl⟩,hI2 _ rfl⟩
 conv=>whnf
 refine Yj h ?_
 rintro I5 μ5 ⟨v2,v3,⟨⟩⟩ zs5 h hI5 hR5
 change JV a1 v0 v2 v3=some zs5 at h
 unfold JV at h
 conv=>whnf
 refine Zz h (fun h=>?_) (fun h=>?_)
 conv=>whnf
 refine vAt h (fun x0 he6a he6b he6x h=>?_)
 conv=>whnf
 refine Qt h (fun hp7 h=>?_)
 conv=>whnf
 cases h
 exact ⟨⟨rfl,rfl⟩,hI5 _ rfl⟩
 conv=>whnf
 refine Zl h (fun l05Names0 hb8 h=>?_)
 conv=>whnf
 refine ZeX ?_
 refine YJ h (fun h=>?_) (fun h=>?_)
 conv=>whnf
 refine Zl h (fun l05Names1 hb9 h=>?_)
 conv=>whnf
 refine ZeX ?_
 refine YJ h (fun h=>?_) (fun h=>?_)
 conv=>whnf
 refine Zl h (fun l05Names2 hb10 h=>?_)
 conv=>whnf
 refine Yb ?_
 refine YJ h (fun h=>?_) (fun h=>?_)
 conv=>whnf
 refine Qt h (fun hp11 h=>?_)
 conv=>whnf
 refine Qt h (fun hp12 h=>?_)
 conv=>whnf
 refine Qt h (fun hp13 h=>?_)
 conv=>whnf
 refine Qt h (fun hp14 h=>?_)
 conv=>whnf
 refine Yj h ?_
 rintro I15 μ15 ⟨v4,l0,⟨⟩⟩ zs15 h hI15 hR15
 change X8 a1 v4 l0=some zs15 at h
 unfold X8 at h
 conv=>whnf
 refine Zz h (fun h=>?_) (fun h=>?_)
 conv=>whnf
 refine vAt h (fun x0 he16a he16b he16x h=>?_)
 conv=>whnf
 refine vAt h (fun x1 he17a he17b he17x h=>?_)
 conv=>whnf
 refine vAt h (fun x2 he18a he18b he18x h=>?_)
 conv=>whnf
 refine ⟨by kernel_rfl,?_⟩
 conv=>whnf
 refine ⟨he18a,he18b,Zp he18x ?_⟩
 conv=>whnf
 refine ⟨he18a,he18b,Zp he18x ?_⟩
 conv=>whnf
 refine ⟨by kernel_rfl,?_⟩
 conv=>whnf
 refine ⟨by decide,?_⟩
 conv=>whnf
 refine ⟨he18a,he18b,Zp he18x ?_⟩
 conv=>whnf
 cases h
 exact ⟨⟨rfl,rfl⟩,hI15 _ rfl⟩
 conv=>whnf
 refine Yj h ?_
 rintro I19 μ19 ⟨v5,l1,⟨⟩⟩ zs19 h hI19 hR19
 change X9 a1 v5 l1=some zs19 at h
 unfold X9 at h
 conv=>whnf
 refine Zz h (fun h=>?_) (fun h=>?_)
 conv=>whnf
 refine vAt h (fun x0 he20a he20b he20x h=>?_)
 conv=>whnf
 refine Zz h (fun h=>?_) (fun h=>?_)
 conv=>whnf
 refine ⟨he20a,he20b,Zp he20x ?_⟩
 conv=>whnf
 refine vAt h (fun x1 he21a he21b he21x h=>?_)
 conv=>whnf
 refine ⟨by kernel_rfl,?_⟩
 conv=>whnf
 refine ⟨he21a,he21b,Zp he21x ?_⟩
 conv=>whnf
 refine ⟨he21a,he21b,Zp he21x ?_⟩
 conv=>whnf
 refine ⟨by kernel_rfl,?_⟩
 conv=>whnf
 refine ⟨by decide,?_⟩
 conv=>whnf
 refine ⟨he21a,he21b,Zp he21x ?_⟩
 conv=>whnf
 cases h
 exact ⟨⟨rfl,rfl⟩,hI19 _ rfl⟩
 conv=>whnf
 cases h
 exact ⟨⟨rfl,rfl⟩,hI19 _ rfl⟩
 conv=>whnf
 refine Yj h ?_
 rintro I22 μ22 ⟨v6,⟨⟩⟩ zs22 h hI22 hR22
 change JB l1 v6=some zs22 at h
 unfold JB at h
 conv=>whnf
 refine Zz h (fun h=>?_) (fun h=>?_)
 conv=>whnf
 refine vAt h (fun x0 he23a he23b he23x h=>?_)
 conv=>whnf
 refine ⟨by kernel_rfl,?_⟩
 conv=>whnf
 refine ⟨he23a,he23b,Zp he23x ?_⟩
 conv=>whnf
 refine Yb ?_
 refine Zz h (fun h=>?_) (fun h=>?_)
 conv=>whnf
 cases h
 exact ⟨⟨rfl,rfl⟩,hI22 _ rfl⟩
 conv=>whnf
 cases h
 obtain rfl:=hR22 _ rfl
 obtain rfl:=hR19 _ rfl
 obtain rfl:=hR15 _ rfl
 obtain rfl:=hR5 _ rfl
 obtain rfl:=hR2 _ rfl
 exact hK
 conv=>whnf
 cases h
 obtain rfl:=hR22 _ rfl
 obtain rfl:=hR19 _ rfl
 obtain rfl:=hR15 _ rfl
 obtain rfl:=hR5 _ rfl
 obtain rfl:=hR2 _ rfl
 exact hK
 conv=>whnf
 cases h
 obtain rfl:=hR5 _ rfl
 obtain rfl:=hR2 _ rfl
 exact hK
 conv=>whnf
 cases h
 obtain rfl:=hR5 _ rfl
 obtain rfl:=hR2 _ rfl
 exact hK
 conv=>whnf
 cases h
 obtain rfl:=hR5 _ rfl
 obtain rfl:=hR2 _ rfl
 exact hK
 conv=>whnf
 cases h
 exact hK
 conv=>whnf
 cases h
 exact hK
theorem w61 (q0:Zc Tryz.prog 144 c60):Zc Tryz.prog 232 c61:=by
 refine Zg Zr (Ze q0 Zj) mixed {draws:=[(1,[0,1,3,0,8,31,0,64,255,511,1023],.op 0 (.op 1 (.op 3 (.op 4 (.op 6 (.op 7 (.alt 2 (.alt 5 (.alt 8 (.op 9 (.alt 10 (.done) (.done))) (.done)) (.done)) (.done))))))))]} (fn:=Tryz.f232) Tryz.func232 (by kernel_rfl) (by kernel_rfl) ?_
 rintro ⟨t0,⟨⟩⟩ K ⟨r,h,hK⟩
 change Zee t0=some r at h
 unfold Zee at h
 conv=>whnf
 refine ⟨by kernel_rfl,?_⟩
 conv=>whnf
 refine Zl h (fun l02Ints0 hb0 h=>?_)
 conv=>whnf
 refine Zl h (fun l02Ints1 hb1 h=>?_)
 conv=>whnf
 refine Zl h (fun l02Ints2 hb2 h=>?_)
 conv=>whnf
 refine ⟨trivial,?_⟩
 conv=>whnf
 cases h
 exact hK
theorem w67 (q0:Zc Tryz.prog 115 c64) (q2:Zc Tryz.prog 116 c65) (q1:Zc Tryz.prog 81 c66):Zc Tryz.prog 61 c67:=by
 refine Zg YO (Ze q0 (Ze q2 (Ze q1 Zj))) mixed {loops:=[(0,[.reg 4 (.dat (.int .i64)),.cello 1003 4 (.ol 64 (Zha))])],draws:=[(1,[0,1,3,0,8,31,63,0,255],.op 0 (.op 1 (.op 3 (.op 4 (.alt 2 (.alt 5 (.op 6 (.alt 7 (.alt 8 (.done) (.done)) (.done))) (.alt 7 (.alt 5 (.op 6 (.alt 8 (.done) (.done))) (.done)) (.done))) (.alt 7 (.alt 2 (.alt 5 (.op 6 (.alt 8 (.done) (.done))) (.done)) (.done)) (.done))))))),(5,[0,1,0,4,0,28,60,124,252,511,1023,2047],.op 0 (.op 1 (.op 2 (.op 3 (.op 4 (.op 5 (.op 6 (.alt 7 (.alt 8 (.alt 9 (.op 10 (.alt 11 (.done) (.done))) (.done)) (.done)) (.done)))))))))]} (fn:=Tryz.f61) Tryz.func61 (by kernel_rfl) (by kernel_rfl) ?_
 rintro ⟨b0,⟨⟩⟩ K ⟨r,h,hK⟩
 change ZcL b0=some r at h
 unfold ZcL at h
 focus
  conv=>whnf
  refine ⟨by kernel_rfl,?_⟩
  conv=>whnf
  obtain ⟨l03OwnLibrary0,hb0,h⟩:=Option.bind_eq_some_iff.1 h
  obtain ⟨l05Own0,hb2,h⟩:=Option.bind_eq_some_iff.1 h
  refine ⟨?_,?_⟩
  rotate_left
  focus
   conv=>whnf
   refine ⟨_,hb0,?_⟩
   conv=>whnf
   intro fp12
   conv=>whnf
   refine ⟨_,hb2,?_⟩
   conv=>whnf
   intro fp13
   conv=>whnf
   refine ⟨trivial,?_⟩
  rotate_right
  focus
   conv=>whnf
   refine ⟨_,hb0,?_⟩
   conv=>whnf
   intro fp12
   conv=>whnf
   refine ⟨?_,?_⟩
   rotate_left
   focus
    conv=>whnf
    refine ⟨_,hb2,?_⟩
    conv=>whnf
    intro fp13
    conv=>whnf
    refine ⟨trivial,?_⟩
   rotate_right
   focus
    conv=>whnf
    refine ⟨_,hb2,?_⟩
    conv=>whnf
    intro fp13
    conv=>whnf
    refine ⟨trivial,?_⟩
  all_goals
   conv=>whnf
   refine Yj h ?_
   rintro I4 μ4 ⟨i0,c0,⟨⟩⟩ zs4 h hI4 hR4
   change Jm b0 l03OwnLibrary0 l05Own0 i0 c0=some zs4 at h
   unfold Jm at h
   conv=>whnf
   intro fp5
   conv=>whnf
   refine Zz h (fun h=>?_) (fun h=>?_)
   conv=>whnf
   refine ⟨by kernel_rfl,?_⟩
   conv=>whnf
   refine vAt h (fun x0 he6a he6b he6x h=>?_)
   conv=>whnf
   refine Zl h (fun l07OwnWire0 hb7 h=>?_)
   conv=>whnf
   intro fp8
   conv=>whnf
   refine Qt h (fun hp9 h=>?_)
   conv=>whnf
   intro fp10
   conv=>whnf
   refine ⟨trivial,?_⟩
   conv=>whnf
   cases h
   exact ⟨⟨rfl,rfl⟩,hI4 _ rfl⟩
   conv=>whnf
   cases h
   obtain rfl:=hR4 _ rfl
   exact hK
theorem w66 (q0:Zc Tryz.prog 144 c60):Zc Tryz.prog 81 c66:=by
 refine Zg Zr (Ze q0 Zj) mixed {draws:=[(1,[0,1,3,0,8,31,0,64,255,0,512,2047,4095,8191],.op 0 (.op 1 (.op 3 (.op 4 (.op 6 (.op 7 (.op 9 (.op 10 (.alt 2 (.alt 5 (.alt 8 (.alt 11 (.op 12 (.alt 13 (.done) (.done))) (.done)) (.done)) (.done)) (.done))))))))))]} (fn:=Tryz.f81) Tryz.func81 (by kernel_rfl) (by kernel_rfl) ?_
 rintro ⟨w0,⟨⟩⟩ K ⟨r,h,hK⟩
 change Vq w0=some r at h
 unfold Vq at h
 conv=>whnf
 refine ⟨by kernel_rfl,?_⟩
 conv=>whnf
 refine Zl h (fun l02Ints0 hb0 h=>?_)
 conv=>whnf
 refine Zl h (fun l02Ints1 hb1 h=>?_)
 conv=>whnf
 refine Zl h (fun l02Ints2 hb2 h=>?_)
 conv=>whnf
 refine Zl h (fun l02Ints3 hb3 h=>?_)
 conv=>whnf
 refine ⟨trivial,?_⟩
 conv=>whnf
 cases h
 exact hK
theorem w80:Zc Tryz.prog 84 c80:=by
 refine Zg YO Zj mixed {draws:=[(3,[0,1,0,4,15,31,63,0,128,0,1023,2047],.op 0 (.op 1 (.op 2 (.op 3 (.op 4 (.op 5 (.op 6 (.op 7 (.op 8 (.op 9 (.op 10 (.alt 11 (.done) (.done)))))))))))))]} (fn:=Tryz.f84) Tryz.func84 (by kernel_rfl) (by kernel_rfl) ?_
 rintro ⟨d0,p0,net0,⟨⟩⟩ K ⟨r,h,hK⟩
 change Vv d0 p0 net0=some r at h
 unfold Vv at h
 conv=>whnf
 intro fp0
 conv=>whnf
 refine Zz h (fun h=>?_) (fun h=>?_)
 conv=>whnf
 refine vAt h (fun x0 he1a he1b he1x h=>?_)
 conv=>whnf
 refine ⟨by kernel_rfl,?_⟩
 conv=>whnf
 refine ⟨by decide,?_⟩
 conv=>whnf
 refine ⟨he1a,he1b,Zp he1x ?_⟩
 conv=>whnf
 cases h
 exact hK
 conv=>whnf
 refine ⟨by kernel_rfl,?_⟩
 conv=>whnf
 refine vAt h (fun x0 he2a he2b he2x h=>?_)
 conv=>whnf
 refine ⟨he2a,he2b,Zp he2x ?_⟩
 conv=>whnf
 intro fp3
 conv=>whnf
 refine vAt h (fun x1 he4a he4b he4x h=>?_)
 conv=>whnf
 refine ⟨by kernel_rfl,?_⟩
 conv=>whnf
 refine ⟨by decide,?_⟩
 conv=>whnf
 refine ⟨he4a,he4b,Zp he4x ?_⟩
 conv=>whnf
 refine ⟨trivial,?_⟩
 conv=>whnf
 cases h
 exact hK
end Go.Proofs.YtehkanadahncgaaGreatDoor
