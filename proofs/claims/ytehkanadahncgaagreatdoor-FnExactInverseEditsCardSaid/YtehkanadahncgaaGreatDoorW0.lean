/-
  The functions keep their contracts, if what they call does. Printed by program.
-/
import Derived.Test.YtehkanadahncgaaGreatDoorM
import Derived.KernelRfl
namespace Go.Proofs.YtehkanadahncgaaGreatDoor
open Go Go.Sx
set_option maxRecDepth 100000
set_option maxHeartbeats 3200000
set_option linter.unusedVariables false
set_option linter.unusedSimpArgs false
theorem ZBj (q0:Zc Tryz.prog 70 Zra):Zc Tryz.prog 104 Zvz:=by
 refine Zg Zr (Ze q0 Zj) mixed {loops:=[(0,[.reg 16 (.dat (.int .i64)),.entm 1 (Zpf.ty) (Zpf.ety),.ent 2 (nat_lit 3) (.flat Zp3.ety)])],draws:=[(7,[0,0,2,0,8,30,0,64,0,256,960,1984,4032,0,0,16384,57344,122880,262080,524224,1048575],.op 0 (.op 1 (.op 2 (.op 3 (.op 4 (.op 5 (.op 6 (.op 7 (.op 8 (.op 9 (.op 10 (.op 11 (.op 12 (.op 13 (.op 14 (.op 15 (.op 16 (.op 17 (.op 18 (.op 19 (.alt 20 (.done) (.done))))))))))))))))))))))]} (fn:=Tryz.f104) Tryz.func104 (by kernel_rfl) (by kernel_rfl) ?_
 rintro ⟨b0,⟨⟩⟩ K ⟨r,h,hK⟩
 change Xi b0=some r at h
 unfold Xi at h
 conv=>whnf
 refine Qt h (fun hp0 h=>?_)
 conv=>whnf
 refine Qt h (fun hp1 h=>?_)
 conv=>whnf
 refine Qt h (fun hp2 h=>?_)
 conv=>whnf
 refine Qt h (fun hp3 h=>?_)
 conv=>whnf
 refine Zl h (fun places0 hb4 h=>?_)
 conv=>whnf
 refine Yj h ?_
 rintro I5 μ5 ⟨v0,m0,l0,⟨⟩⟩ zs5 h hI5 hR5
 change Qd b0 places0 v0 m0 l0=some zs5 at h
 unfold Qd at h
 conv=>whnf
 refine Zz h (fun h=>?_) (fun h=>?_)
 conv=>whnf
 refine vAt h (fun x0 he6a he6b he6x h=>?_)
 conv=>whnf
 refine ⟨by kernel_rfl,?_⟩
 conv=>whnf
 refine ⟨he6a,he6b,Zp he6x ?_⟩
 conv=>whnf
 refine Yb ?_
 refine YJ h (fun h=>?_) (fun h=>?_)
 conv=>whnf
 cases h
 exact ⟨⟨rfl,rfl⟩,hI5 _ rfl⟩
 conv=>whnf
 refine ⟨by kernel_rfl,?_⟩
 conv=>whnf
 refine vAt h (fun x1 he7a he7b he7x h=>?_)
 conv=>whnf
 refine vAt h (fun x2 he8a he8b he8x h=>?_)
 conv=>whnf
 refine ⟨by kernel_rfl,?_⟩
 conv=>whnf
 refine ⟨he8a,he8b,Zp he8x ?_⟩
 conv=>whnf
 refine vAt h (fun x3 he9a he9b he9x h=>?_)
 conv=>whnf
 refine ⟨trivial,?_⟩
 conv=>whnf
 refine ⟨he8a,he8b,Zp he8x ?_⟩
 conv=>whnf
 refine ⟨by kernel_rfl,?_⟩
 conv=>whnf
 refine ⟨he8a,he8b,Zp he8x ?_⟩
 conv=>whnf
 refine ⟨he8a,he8b,Zp he8x ?_⟩
 conv=>whnf
 refine ⟨by kernel_rfl,?_⟩
 conv=>whnf
 refine ⟨by decide,?_⟩
 conv=>whnf
 refine ⟨he8a,he8b,Zp he8x ?_⟩
 conv=>whnf
 cases h
 exact ⟨⟨rfl,rfl⟩,hI5 _ rfl⟩
 conv=>whnf
 cases h
 obtain rfl:=hR5 _ rfl
 exact hK
theorem ZCb (q0:Zc Tryz.prog 156 c130) (q1:Zc Tryz.prog 137 c90):Zc Tryz.prog 133 c131:=by
 refine Zg Zr (Ze q0 (Ze q1 Zj)) mixed {} (fn:=Tryz.f133) Tryz.func133 (by kernel_rfl) (by kernel_rfl) ?_
 rintro ⟨d0,net0,⟨⟩⟩ K ⟨r,h,hK⟩
 change YD d0 net0=some r at h
 unfold YD at h
 conv=>whnf
 refine Zl h (fun string0 hb0 h=>?_)
 conv=>whnf
 refine Zl h (fun within0 hb1 h=>?_)
 conv=>whnf
 cases h
 exact hK
theorem ZAD (q1:Zc Tryz.prog 70 Zra) (q0:Zc Tryz.prog 172 ZxZ):Zc Tryz.prog 120 Zxu:=by
 refine Zg Zr (Ze q1 (Ze q0 Zj)) mixed {} (fn:=Tryz.f120) Tryz.func120 (by kernel_rfl) (by kernel_rfl) ?_
 rintro ⟨d0,instance0,pin0,⟨⟩⟩ K ⟨r,h,hK⟩
 change X7 d0 instance0 pin0=some r at h
 unfold X7 at h
 conv=>whnf
 refine Zl h (fun places0 hb0 h=>?_)
 conv=>whnf
 refine Zl h (fun c1_0 hb1 h=>?_)
 conv=>whnf
 cases h
 exact hK
theorem ZBK:Zc Tryz.prog 70 Zra:=by
 refine Zg Zr Zj mixed {loops:=[(0,[.reg 3 (.own (.ol 115 (.flat (Zjr)))),.reg 13 (.dat (.int .i64))]),(2,[.reg 3 (.own (.ol 115 (.flat (Zjr)))),.reg 21 (.dat (.int .i64))]),(4,[.reg 3 (.own (.ol 115 (.flat (Zjr)))),.reg 44 (.dat (.int .i64))])]} (fn:=Tryz.f70) Tryz.func70 (by kernel_rfl) (by kernel_rfl) ?_
 rintro ⟨d0,⟨⟩⟩ K ⟨r,h,hK⟩
 change Yh d0=some r at h
 unfold Yh at h
 conv=>whnf
 refine Yj h ?_
 rintro I0 μ0 ⟨list0,v0,⟨⟩⟩ zs0 h hI0 hR0
 change Qc d0 list0 v0=some zs0 at h
 unfold Qc at h
 conv=>whnf
 refine Zz h (fun h=>?_) (fun h=>?_)
 conv=>whnf
 refine vAt h (fun x0 he1a he1b he1x h=>?_)
 conv=>whnf
 refine Yj h ?_
 rintro I2 μ2 ⟨list1,v1,⟨⟩⟩ zs2 h hI2 hR2
 change Qi v0 x0 list1 v1=some zs2 at h
 unfold Qi at h
 conv=>whnf
 refine Zz h (fun h=>?_) (fun h=>?_)
 conv=>whnf
 refine vAt h (fun x1 he3a he3b he3x h=>?_)
 conv=>whnf
 refine Qt h (fun hp4 h=>?_)
 conv=>whnf
 cases h
 exact ⟨⟨rfl,rfl⟩,hI2 _ rfl⟩
 conv=>whnf
 cases h
 obtain rfl:=hR2 _ rfl
 exact ⟨⟨rfl,rfl⟩,hI0 _ rfl⟩
 conv=>whnf
 refine Yj h ?_
 rintro I5 μ5 ⟨list1,v1,⟨⟩⟩ zs5 h hI5 hR5
 change Ql d0 list1 v1=some zs5 at h
 unfold Ql at h
 conv=>whnf
 refine Zz h (fun h=>?_) (fun h=>?_)
 conv=>whnf
 refine vAt h (fun x0 he6a he6b he6x h=>?_)
 conv=>whnf
 refine Qt h (fun hp7 h=>?_)
 conv=>whnf
 cases h
 exact ⟨⟨rfl,rfl⟩,hI5 _ rfl⟩
 conv=>whnf
 cases h
 obtain rfl:=hR5 _ rfl
 obtain rfl:=hR0 _ rfl
 exact hK
theorem Zy1 (q0:Zc Tryz.prog 137 c90):Zc Tryz.prog 138 c141:=by
 refine Zg Zr (Ze q0 Zj) mixed {loops:=[(0,[.reg 8 (.dat (.int .i64))])]} (fn:=Tryz.f138) Tryz.func138 (by kernel_rfl) (by kernel_rfl) ?_
 rintro ⟨w0,⟨⟩⟩ K ⟨r,h,hK⟩
 change J5 w0=some r at h
 unfold J5 at h
 conv=>whnf
 refine Yj h ?_
 rintro I0 μ0 ⟨v0,⟨⟩⟩ zs0 h hI0 hR0
 change Q7 w0 v0=some zs0 at h
 unfold Q7 at h
 conv=>whnf
 refine Zz h (fun h=>?_) (fun h=>?_)
 conv=>whnf
 refine vAt h (fun x0 he1a he1b he1x h=>?_)
 conv=>whnf
 refine Zz h (fun h=>?_) (fun h=>?_)
 conv=>whnf
 refine ZeX ?_
 refine Zz h (fun h=>?_) (fun h=>?_)
 conv=>whnf
 refine vAt h (fun x1 he2a he2b he2x h=>?_)
 conv=>whnf
 refine ZeX ?_
 refine Zz h (fun h=>?_) (fun h=>?_)
 conv=>whnf
 refine Zz h (fun h=>?_) (fun h=>?_)
 conv=>whnf
 refine Zl h (fun within0 hb3 h=>?_)
 conv=>whnf
 refine Yb ?_
 refine YJ h (fun h=>?_) (fun h=>?_)
 conv=>whnf
 cases h
 exact ⟨⟨rfl,rfl⟩,hI0 _ rfl⟩
 conv=>whnf
 cases h
 obtain rfl:=hR0 _ rfl
 exact hK
 conv=>whnf
 cases h
 exact ⟨⟨rfl,rfl⟩,hI0 _ rfl⟩
 conv=>whnf
 cases h
 obtain rfl:=hR0 _ rfl
 exact hK
 conv=>whnf
 cases h
 obtain rfl:=hR0 _ rfl
 exact hK
 conv=>whnf
 refine Zz h (fun h=>?_) (fun h=>?_)
 conv=>whnf
 refine Zl h (fun within0 hb4 h=>?_)
 conv=>whnf
 refine Yb ?_
 refine YJ h (fun h=>?_) (fun h=>?_)
 conv=>whnf
 cases h
 exact ⟨⟨rfl,rfl⟩,hI0 _ rfl⟩
 conv=>whnf
 cases h
 obtain rfl:=hR0 _ rfl
 exact hK
 conv=>whnf
 cases h
 exact ⟨⟨rfl,rfl⟩,hI0 _ rfl⟩
 conv=>whnf
 cases h
 obtain rfl:=hR0 _ rfl
 exact hK
theorem w99 (q0:Zc Tryz.prog 137 c90):Zc Tryz.prog 191 c99:=by
 refine Zg Zr (Ze q0 Zj) mixed {} (fn:=Tryz.f191) Tryz.func191 (by kernel_rfl) (by kernel_rfl) ?_
 rintro ⟨n0,a0,a1,⟨⟩⟩ K ⟨r,h,hK⟩
 change ZaI n0 a0 a1=some r at h
 unfold ZaI at h
 conv=>whnf
 refine Zl h (fun within0 hb0 h=>?_)
 conv=>whnf
 cases h
 exact hK
theorem w98:Zc Tryz.prog 136 c98:=by
 refine Zg Zr Zj mixed {} (fn:=Tryz.f136) Tryz.func136 (by kernel_rfl) (by kernel_rfl) ?_
 rintro ⟨list0,⟨⟩⟩ K ⟨r,h,hK⟩
 change YK list0=some r at h
 unfold YK at h
 conv=>whnf
 cases h
 exact hK
theorem Zzc (q0:Zc Tryz.prog 235 c156):Zc Tryz.prog 210 c157:=by
 refine Zg Zr (Ze q0 Zj) mixed {} (fn:=Tryz.f210) Tryz.func210 (by kernel_rfl) (by kernel_rfl) ?_
 rintro ⟨a0,b0,⟨⟩⟩ K ⟨r,h,hK⟩
 change Zb4 a0 b0=some r at h
 unfold Zb4 at h
 conv=>whnf
 refine Zl h (fun int64_0 hb0 h=>?_)
 conv=>whnf
 refine YJ h (fun h=>?_) (fun h=>?_)
 conv=>whnf
 refine Zl h (fun int64_1 hb1 h=>?_)
 conv=>whnf
 refine YJ h (fun h=>?_) (fun h=>?_)
 conv=>whnf
 refine Zl h (fun int64_2 hb2 h=>?_)
 conv=>whnf
 refine YJ h (fun h=>?_) (fun h=>?_)
 conv=>whnf
 refine Zl h (fun int64_3 hb3 h=>?_)
 conv=>whnf
 cases h
 exact hK
 conv=>whnf
 cases h
 exact hK
 conv=>whnf
 cases h
 exact hK
 conv=>whnf
 cases h
 exact hK
theorem Zzo (q0:Zc Tryz.prog 228 c194):Zc Tryz.prog 203 ZxB:=by
 refine Zg Zr (Ze q0 Zj) mixed {loops:=[(0,[.reg 5 (.dat (.int .i64))])],draws:=[(6,[0,0,3,7,0,0,48,112,255,511],.op 0 (.op 1 (.op 2 (.op 3 (.op 4 (.op 5 (.op 6 (.op 7 (.alt 8 (.op 9 (.done)) (.done))))))))))]} (fn:=Tryz.f203) Tryz.func203 (by kernel_rfl) (by kernel_rfl) ?_
 rintro ⟨a0,b0,⟨⟩⟩ K ⟨r,h,hK⟩
 change Zeq a0 b0=some r at h
 unfold Zeq at h
 conv=>whnf
 refine Yb ?_
 refine Zz h (fun h=>?_) (fun h=>?_)
 conv=>whnf
 refine Yj h ?_
 rintro I0 μ0 ⟨i0,⟨⟩⟩ zs0 h hI0 hR0
 change Zed a0 b0 i0=some zs0 at h
 unfold Zed at h
 conv=>whnf
 refine Zz h (fun h=>?_) (fun h=>?_)
 conv=>whnf
 refine ⟨by kernel_rfl,?_⟩
 conv=>whnf
 refine vAt h (fun x0 he1a he1b he1x h=>?_)
 conv=>whnf
 refine vAt h (fun x1 he2a he2b he2x h=>?_)
 conv=>whnf
 refine Zl h (fun eqArc0 hb3 h=>?_)
 conv=>whnf
 refine ⟨trivial,?_⟩
 conv=>whnf
 refine Yb ?_
 refine YJ h (fun h=>?_) (fun h=>?_)
 conv=>whnf
 cases h
 exact ⟨⟨rfl,rfl⟩,hI0 _ rfl⟩
 conv=>whnf
 cases h
 obtain rfl:=hR0 _ rfl
 exact hK
 conv=>whnf
 cases h
 obtain rfl:=hR0 _ rfl
 exact hK
 conv=>whnf
 cases h
 exact hK
theorem ZBO (q0:Zc Tryz.prog 43 c198) (q1:Zc Tryz.prog 44 Zyj) (q2:Zc Tryz.prog 45 Zxe):Zc Tryz.prog 14 c206:=by
 refine Zg Zr (Ze q0 (Ze q1 (Ze q2 Zj))) mixed {} (fn:=Tryz.f14) Tryz.func14 (by kernel_rfl) (by kernel_rfl) ?_
 rintro ⟨a0,b0,⟨⟩⟩ K ⟨r,h,hK⟩
 change Zdk a0 b0=some r at h
 unfold Zdk at h
 conv=>whnf
 refine Zl h (fun eqLibrary0 hb0 h=>?_)
 conv=>whnf
 refine Yb ?_
 refine YJ h (fun h=>?_) (fun h=>?_)
 conv=>whnf
 refine Zl h (fun eqDesign0 hb1 h=>?_)
 conv=>whnf
 refine Yb ?_
 refine YJ h (fun h=>?_) (fun h=>?_)
 conv=>whnf
 refine Zl h (fun eqWireS0 hb2 h=>?_)
 conv=>whnf
 refine Yb ?_
 refine YJ h (fun h=>?_) (fun h=>?_)
 conv=>whnf
 cases h
 exact hK
 conv=>whnf
 cases h
 exact hK
 conv=>whnf
 cases h
 exact hK
 conv=>whnf
 cases h
 exact hK
theorem Zzu:Zc Tryz.prog 108 ZvF:=by
 refine Zg Zr Zj mixed {loops:=[(0,[.reg 5 (.dat (.int .i64))])],draws:=[(6,[0,0,3,7,0,0,48,112,255],.op 0 (.op 1 (.op 2 (.op 3 (.op 4 (.op 5 (.op 6 (.op 7 (.op 8 (.done))))))))))]} (fn:=Tryz.f108) Tryz.func108 (by kernel_rfl) (by kernel_rfl) ?_
 rintro ⟨a0,b0,⟨⟩⟩ K ⟨r,h,hK⟩
 change Xg a0 b0=some r at h
 unfold Xg at h
 conv=>whnf
 refine Yb ?_
 refine Zz h (fun h=>?_) (fun h=>?_)
 conv=>whnf
 refine Yj h ?_
 rintro I0 μ0 ⟨i0,⟨⟩⟩ zs0 h hI0 hR0
 change ZcI a0 b0 i0=some zs0 at h
 unfold ZcI at h
 conv=>whnf
 refine Zz h (fun h=>?_) (fun h=>?_)
 conv=>whnf
 refine ⟨by kernel_rfl,?_⟩
 conv=>whnf
 refine vAt h (fun x0 he1a he1b he1x h=>?_)
 conv=>whnf
 refine vAt h (fun x1 he2a he2b he2x h=>?_)
 conv=>whnf
 refine ⟨trivial,?_⟩
 conv=>whnf
 refine Yb ?_
 refine Zz h (fun h=>?_) (fun h=>?_)
 conv=>whnf
 cases h
 exact ⟨⟨rfl,rfl⟩,hI0 _ rfl⟩
 conv=>whnf
 cases h
 obtain rfl:=hR0 _ rfl
 exact hK
 conv=>whnf
 cases h
 obtain rfl:=hR0 _ rfl
 exact hK
 conv=>whnf
 cases h
 exact hK
theorem ZCk (q0:Zc Tryz.prog 153 Zyn):Zc Tryz.prog 95 c203:=by
 refine Zg Zr (Ze q0 Zj) mixed {loops:=[(0,[.reg 5 (.dat (.int .i64))])],draws:=[(6,[0,0,3,7,0,0,48,112,255,511],.op 0 (.op 1 (.op 2 (.op 3 (.op 4 (.op 5 (.op 6 (.op 7 (.alt 8 (.op 9 (.done)) (.done))))))))))]} (fn:=Tryz.f95) Tryz.func95 (by kernel_rfl) (by kernel_rfl) ?_
 rintro ⟨a0,b0,⟨⟩⟩ K ⟨r,h,hK⟩
 change Zc8 a0 b0=some r at h
 unfold Zc8 at h
 conv=>whnf
 refine Yb ?_
 refine Zz h (fun h=>?_) (fun h=>?_)
 conv=>whnf
 refine Yj h ?_
 rintro I0 μ0 ⟨i0,⟨⟩⟩ zs0 h hI0 hR0
 change ZdK a0 b0 i0=some zs0 at h
 unfold ZdK at h
 conv=>whnf
 refine Zz h (fun h=>?_) (fun h=>?_)
 conv=>whnf
 refine ⟨by kernel_rfl,?_⟩
 conv=>whnf
 refine vAt h (fun x0 he1a he1b he1x h=>?_)
 conv=>whnf
 refine vAt h (fun x1 he2a he2b he2x h=>?_)
 conv=>whnf
 refine Zl h (fun eqPort0 hb3 h=>?_)
 conv=>whnf
 refine ⟨trivial,?_⟩
 conv=>whnf
 refine Yb ?_
 refine YJ h (fun h=>?_) (fun h=>?_)
 conv=>whnf
 cases h
 exact ⟨⟨rfl,rfl⟩,hI0 _ rfl⟩
 conv=>whnf
 cases h
 obtain rfl:=hR0 _ rfl
 exact hK
 conv=>whnf
 cases h
 obtain rfl:=hR0 _ rfl
 exact hK
 conv=>whnf
 cases h
 exact hK
theorem ZzS (q1:Zc Tryz.prog 49 ZtG) (q0:Zc Tryz.prog 51 ZyC):Zc Tryz.prog 17 c222:=by
 refine Zg Zr (Ze q1 (Ze q0 Zj)) mixed {loops:=[(0,[.reg 1 (.dat (.int .i64)),.reg 5 (.dat (.int .i64))])],draws:=[(19,[0,0,3,7,15,0,32,127],.op 0 (.op 1 (.op 2 (.op 3 (.op 4 (.op 5 (.alt 6 (.op 7 (.done)) (.done))))))))]} (fn:=Tryz.f17) Tryz.func17 (by kernel_rfl) (by kernel_rfl) ?_
 rintro ⟨a0,a1,⟨⟩⟩ K ⟨r,h,hK⟩
 change ZbA a0 a1=some r at h
 unfold ZbA at h
 conv=>whnf
 refine Yj h ?_
 rintro I0 μ0 ⟨v0,v1,⟨⟩⟩ zs0 h hI0 hR0
 change QO a0 v0 v1=some zs0 at h
 unfold QO at h
 conv=>whnf
 refine Zz h (fun h=>?_) (fun h=>?_)
 conv=>whnf
 refine vAt h (fun x0 he1a he1b he1x h=>?_)
 conv=>whnf
 refine Yb ?_
 refine Zz h (fun h=>?_) (fun h=>?_)
 conv=>whnf
 refine ⟨he1a,he1b,Zp he1x ?_⟩
 conv=>whnf
 refine Yb ?_
 refine Zz h (fun h=>?_) (fun h=>?_)
 conv=>whnf
 refine ⟨he1a,he1b,Zp he1x ?_⟩
 conv=>whnf
 refine Yb ?_
 refine Zz h (fun h=>?_) (fun h=>?_)
 conv=>whnf
 refine ⟨he1a,he1b,Zp he1x ?_⟩
 conv=>whnf
 refine Yb ?_
 refine Zz h (fun h=>?_) (fun h=>?_)
 conv=>whnf
 refine ⟨he1a,he1b,Zp he1x ?_⟩
 conv=>whnf
 refine Yb ?_
 refine Zz h (fun h=>?_) (fun h=>?_)
 conv=>whnf
 refine ⟨by kernel_rfl,?_⟩
 conv=>whnf
 refine ⟨he1a,he1b,Zp he1x ?_⟩
 conv=>whnf
 refine Zl h (fun markText0 hb2 h=>?_)
 conv=>whnf
 refine ⟨trivial,?_⟩
 conv=>whnf
 refine Yb ?_
 refine Zz h (fun h=>?_) (fun h=>?_)
 conv=>whnf
 refine ⟨he1a,he1b,Zp he1x ?_⟩
 conv=>whnf
 refine Zl h (fun heldInt64S0 hb3 h=>?_)
 conv=>whnf
 refine Zz h (fun h=>?_) (fun h=>?_)
 conv=>whnf
 cases h
 obtain rfl:=hR0 _ rfl
 exact hK
 conv=>whnf
 refine ⟨he1a,he1b,Zp he1x ?_⟩
 conv=>whnf
 refine Zl h (fun heldInt64S1 hb4 h=>?_)
 conv=>whnf
 refine Zz h (fun h=>?_) (fun h=>?_)
 conv=>whnf
 cases h
 obtain rfl:=hR0 _ rfl
 exact hK
 conv=>whnf
 refine ⟨he1a,he1b,Zp he1x ?_⟩
 conv=>whnf
 refine Zl h (fun heldInt64S2 hb5 h=>?_)
 conv=>whnf
 refine Zz h (fun h=>?_) (fun h=>?_)
 conv=>whnf
 cases h
 obtain rfl:=hR0 _ rfl
 exact hK
 conv=>whnf
 refine ⟨he1a,he1b,Zp he1x ?_⟩
 conv=>whnf
 refine Zl h (fun heldInt64S3 hb6 h=>?_)
 conv=>whnf
 refine Zz h (fun h=>?_) (fun h=>?_)
 conv=>whnf
 cases h
 obtain rfl:=hR0 _ rfl
 exact hK
 conv=>whnf
 cases h
 exact ⟨⟨rfl,rfl⟩,hI0 _ rfl⟩
 conv=>whnf
 cases h
 obtain rfl:=hR0 _ rfl
 exact hK
 conv=>whnf
 cases h
 obtain rfl:=hR0 _ rfl
 exact hK
 conv=>whnf
 cases h
 obtain rfl:=hR0 _ rfl
 exact hK
 conv=>whnf
 cases h
 obtain rfl:=hR0 _ rfl
 exact hK
 conv=>whnf
 cases h
 obtain rfl:=hR0 _ rfl
 exact hK
 conv=>whnf
 cases h
 obtain rfl:=hR0 _ rfl
 exact hK
 conv=>whnf
 cases h
 obtain rfl:=hR0 _ rfl
 exact hK
theorem Zzz:Zc Tryz.prog 51 ZyC:=by
 refine Zg Zr Zj mixed {loops:=[(0,[.reg 1 (.dat (.int .i64)),.reg 5 (.dat (.int .i64))])]} (fn:=Tryz.f51) Tryz.func51 (by kernel_rfl) (by kernel_rfl) ?_
 rintro ⟨a0,k0,⟨⟩⟩ K ⟨r,h,hK⟩
 change QG a0 k0=some r at h
 unfold QG at h
 conv=>whnf
 refine Yj h ?_
 rintro I0 μ0 ⟨k1,i0,⟨⟩⟩ zs0 h hI0 hR0
 change Qe a0 k1 i0=some zs0 at h
 unfold Qe at h
 conv=>whnf
 refine Zz h (fun h=>?_) (fun h=>?_)
 conv=>whnf
 refine vAt h (fun x0 he1a he1b he1x h=>?_)
 conv=>whnf
 refine Yb ?_
 refine Zz h (fun h=>?_) (fun h=>?_)
 conv=>whnf
 cases h
 exact ⟨⟨rfl,rfl⟩,hI0 _ rfl⟩
 conv=>whnf
 cases h
 obtain rfl:=hR0 _ rfl
 exact hK
 conv=>whnf
 cases h
 obtain rfl:=hR0 _ rfl
 exact hK
theorem ZCn (q1:Zc Tryz.prog 49 ZtG) (q0:Zc Tryz.prog 50 Zu3):Zc Tryz.prog 97 Zxh:=by
 refine Zg YO (Ze q1 (Ze q0 Zj)) mixed {loops:=[(0,[.reg 1 (.dat (.int .i64)),.reg 5 (.dat (.int .i64)),.ent 0 (nat_lit 124) (Dp.pair (Dp.flat Ty.str) (Dp.pair (Dp.flat (Ty.int IntKind.i64)) (Dp.pair (Dp.ol (2:Go.TypeId) (Dp.flat (Ty.int IntKind.i64))) (Dp.flat Ty.unit))))])]} (fn:=Tryz.f97) Tryz.func97 (by kernel_rfl) (by kernel_rfl) ?_
 rintro ⟨a0,k0,⟨⟩⟩ K ⟨r,h,hK⟩
 change VI a0 k0=some r at h
 unfold VI at h
 conv=>whnf
 intro fp0
 conv=>whnf
 refine Yj h ?_
 rintro I1 μ1 ⟨k1,i0,l0,⟨⟩⟩ zs1 h hI1 hR1
 change Qm k1 i0 l0=some zs1 at h
 unfold Qm at h
 conv=>whnf
 intro fp2
 conv=>whnf
 refine Zz h (fun h=>?_) (fun h=>?_)
 conv=>whnf
 refine Zl h (fun markText0 hb3 h=>?_)
 conv=>whnf
 refine vAt h (fun x0 he4a he4b he4x h=>?_)
 conv=>whnf
 refine ⟨he4a,he4b,Zp he4x ?_⟩
 conv=>whnf
 intro fp5
 conv=>whnf
 refine ⟨he4a,he4b,Zp he4x ?_⟩
 conv=>whnf
 refine .inl ⟨rfl,?_⟩
 conv=>whnf
 refine ⟨he4a,he4b,Zp he4x ?_⟩
 conv=>whnf
 refine .inl ⟨rfl,?_⟩
 conv=>whnf
 refine Zl h (fun markInt64S0 hb6 h=>?_)
 conv=>whnf
 cases h
 exact ⟨⟨rfl,rfl⟩,hI1 _ rfl⟩
 conv=>whnf
 cases h
 obtain rfl:=hR1 _ rfl
 exact hK
theorem ZBi (q0:Zc Tryz.prog 96 c212):Zc Tryz.prog 46 c213:=by
 refine Zg YO (Ze q0 Zj) mixed {} (fn:=Tryz.f46) Tryz.func46 (by kernel_rfl) (by kernel_rfl) ?_
 rintro ⟨a0,k0,⟨⟩⟩ K ⟨r,h,hK⟩
 change J8 a0 k0=some r at h
 unfold J8 at h
 conv=>whnf
 intro fp0
 conv=>whnf
 refine Zl h (fun markCellS0 hb1 h=>?_)
 conv=>whnf
 intro fp2
 conv=>whnf
 cases h
 exact hK
theorem ZB8 (q0:Zc Tryz.prog 49 ZtG):Zc Tryz.prog 154 c208:=by
 refine Zg YO (Ze q0 Zj) mixed {loops:=[(0,[.reg 1 (.dat (.int .i64)),.reg 5 (.dat (.int .i64)),.ent 0 (nat_lit 218) (.flat ZcH)])]} (fn:=Tryz.f154) Tryz.func154 (by kernel_rfl) (by kernel_rfl) ?_
 rintro ⟨a0,k0,⟨⟩⟩ K ⟨r,h,hK⟩
 change Zcs a0 k0=some r at h
 unfold Zcs at h
 conv=>whnf
 refine Yj h ?_
 rintro I0 μ0 ⟨k1,i0,l0,⟨⟩⟩ zs0 h hI0 hR0
 change Jv k1 i0 l0=some zs0 at h
 unfold Jv at h
 conv=>whnf
 refine Zz h (fun h=>?_) (fun h=>?_)
 conv=>whnf
 refine Zl h (fun markText0 hb1 h=>?_)
 conv=>whnf
 refine vAt h (fun x0 he2a he2b he2x h=>?_)
 conv=>whnf
 refine ⟨by kernel_rfl,?_⟩
 conv=>whnf
 refine ⟨by decide,?_⟩
 conv=>whnf
 refine ⟨he2a,he2b,Zp he2x ?_⟩
 conv=>whnf
 refine vAt h (fun x1 he3a he3b he3x h=>?_)
 conv=>whnf
 refine ⟨by kernel_rfl,?_⟩
 conv=>whnf
 refine ⟨by decide,?_⟩
 conv=>whnf
 refine ⟨he3a,he3b,Zp he3x ?_⟩
 conv=>whnf
 refine vAt h (fun x2 he4a he4b he4x h=>?_)
 conv=>whnf
 refine ⟨by kernel_rfl,?_⟩
 conv=>whnf
 refine ⟨by decide,?_⟩
 conv=>whnf
 refine ⟨he4a,he4b,Zp he4x ?_⟩
 conv=>whnf
 refine ⟨by decide,?_⟩
 conv=>whnf
 refine vAt h (fun x3 he5a he5b he5x h=>?_)
 conv=>whnf
 refine ⟨by kernel_rfl,?_⟩
 conv=>whnf
 refine ⟨by decide,?_⟩
 conv=>whnf
 refine ⟨he5a,he5b,Zp he5x ?_⟩
 conv=>whnf
 cases h
 exact ⟨⟨rfl,rfl⟩,hI0 _ rfl⟩
 conv=>whnf
 cases h
 obtain rfl:=hR0 _ rfl
 exact hK
theorem w7 (q1:Zc Tryz.prog 192 c1) (q2:Zc Tryz.prog 193 c6) (q0:Zc Tryz.prog 100 c2):Zc Tryz.prog 141 c7:=by
 refine Zg Zr (Ze q1 (Ze q2 (Ze q0 Zj))) mixed {} (fn:=Tryz.f141) Tryz.func141 (by kernel_rfl) (by kernel_rfl) ?_
 rintro ⟨a0,left0,⟨⟩⟩ K ⟨r,h,hK⟩
 change Zaw a0 left0=some r at h
 unfold Zaw at h
 conv=>whnf
 refine Zz h (fun h=>?_) (fun h=>?_)
 conv=>whnf
 cases h
 exact hK
 conv=>whnf
 refine Zl h (fun szPinS0 hb0 h=>?_)
 conv=>whnf
 refine Zz h (fun h=>?_) (fun h=>?_)
 conv=>whnf
 cases h
 exact hK
 conv=>whnf
 refine Zl h (fun szArcS0 hb1 h=>?_)
 conv=>whnf
 refine Zz h (fun h=>?_) (fun h=>?_)
 conv=>whnf
 cases h
 exact hK
 conv=>whnf
 refine Zl h (fun szInt64S0 hb2 h=>?_)
 conv=>whnf
 refine Zz h (fun h=>?_) (fun h=>?_)
 conv=>whnf
 cases h
 exact hK
 conv=>whnf
 cases h
 exact hK
theorem w19 (q0:Zc Tryz.prog 52 c16):Zc Tryz.prog 18 c19:=by
 refine Zg Zr (Ze q0 Zj) mixed {} (fn:=Tryz.f18) Tryz.func18 (by kernel_rfl) (by kernel_rfl) ?_
 rintro ⟨a0,left0,⟨⟩⟩ K ⟨r,h,hK⟩
 change Zas a0 left0=some r at h
 unfold Zas at h
 conv=>whnf
 refine Zz h (fun h=>?_) (fun h=>?_)
 conv=>whnf
 cases h
 exact hK
 conv=>whnf
 refine Zl h (fun szWire0 hb0 h=>?_)
 conv=>whnf
 refine Zz h (fun h=>?_) (fun h=>?_)
 conv=>whnf
 cases h
 exact hK
 conv=>whnf
 cases h
 exact hK
theorem w9 (q0:Zc Tryz.prog 74 c8):Zc Tryz.prog 34 c9:=by
 refine Zg Zr (Ze q0 Zj) mixed {} (fn:=Tryz.f34) Tryz.func34 (by kernel_rfl) (by kernel_rfl) ?_
 rintro ⟨a0,left0,⟨⟩⟩ K ⟨r,h,hK⟩
 change Jf a0 left0=some r at h
 unfold Jf at h
 conv=>whnf
 refine Zl h (fun szCellS0 hb0 h=>?_)
 conv=>whnf
 refine Zz h (fun h=>?_) (fun h=>?_)
 conv=>whnf
 cases h
 exact hK
 conv=>whnf
 cases h
 exact hK
theorem w0:Zc Tryz.prog 223 c0:=by
 refine Zg Zr Zj mixed {} (fn:=Tryz.f223) Tryz.func223 (by kernel_rfl) (by kernel_rfl) ?_
 rintro ⟨a0,left0,⟨⟩⟩ K ⟨r,h,hK⟩
 change Zbp a0 left0=some r at h
 unfold Zbp at h
 conv=>whnf
 refine Zz h (fun h=>?_) (fun h=>?_)
 conv=>whnf
 cases h
 exact hK
 conv=>whnf
 cases h
 exact hK
theorem w1 (q0:Zc Tryz.prog 223 c0):Zc Tryz.prog 192 c1:=by
 refine Zg Zr (Ze q0 Zj) mixed {loops:=[(0,[.reg 1 (.dat (.int .i64)),.reg 5 (.dat (.int .i64))])]} (fn:=Tryz.f192) Tryz.func192 (by kernel_rfl) (by kernel_rfl) ?_
 rintro ⟨a0,left0,⟨⟩⟩ K ⟨r,h,hK⟩
 change ZbS a0 left0=some r at h
 unfold ZbS at h
 conv=>whnf
 refine Zz h (fun h=>?_) (fun h=>?_)
 conv=>whnf
 cases h
 exact hK
 conv=>whnf
 refine Yj h ?_
 rintro I0 μ0 ⟨left1,i0,⟨⟩⟩ zs0 h hI0 hR0
 change Zd8 a0 left1 i0=some zs0 at h
 unfold Zd8 at h
 conv=>whnf
 refine Zz h (fun h=>?_) (fun h=>?_)
 conv=>whnf
 refine vAt h (fun x0 he1a he1b he1x h=>?_)
 conv=>whnf
 refine Zl h (fun szPin0 hb2 h=>?_)
 conv=>whnf
 refine Zz h (fun h=>?_) (fun h=>?_)
 conv=>whnf
 cases h
 obtain rfl:=hR0 _ rfl
 exact hK
 conv=>whnf
 cases h
 exact ⟨⟨rfl,rfl⟩,hI0 _ rfl⟩
 conv=>whnf
 cases h
 obtain rfl:=hR0 _ rfl
 exact hK
theorem w13:Zc Tryz.prog 143 c13:=by
 refine Zg Zr Zj mixed {} (fn:=Tryz.f143) Tryz.func143 (by kernel_rfl) (by kernel_rfl) ?_
 rintro ⟨a0,left0,⟨⟩⟩ K ⟨r,h,hK⟩
 change Zav a0 left0=some r at h
 unfold Zav at h
 conv=>whnf
 refine Zz h (fun h=>?_) (fun h=>?_)
 conv=>whnf
 cases h
 exact hK
 conv=>whnf
 cases h
 exact hK
theorem w4 (q0:Zc Tryz.prog 267 c3):Zc Tryz.prog 250 c4:=by
 refine Zg Zr (Ze q0 Zj) mixed {loops:=[(0,[.reg 1 (.dat (.int .i64)),.reg 5 (.dat (.int .i64))])]} (fn:=Tryz.f250) Tryz.func250 (by kernel_rfl) (by kernel_rfl) ?_
 rintro ⟨a0,left0,⟨⟩⟩ K ⟨r,h,hK⟩
 change V8 a0 left0=some r at h
 unfold V8 at h
 conv=>whnf
 refine Zz h (fun h=>?_) (fun h=>?_)
 conv=>whnf
 cases h
 exact hK
 conv=>whnf
 refine Yj h ?_
 rintro I0 μ0 ⟨left1,i0,⟨⟩⟩ zs0 h hI0 hR0
 change ZcM a0 left1 i0=some zs0 at h
 unfold ZcM at h
 conv=>whnf
 refine Zz h (fun h=>?_) (fun h=>?_)
 conv=>whnf
 refine vAt h (fun x0 he1a he1b he1x h=>?_)
 conv=>whnf
 refine Zl h (fun szTable0 hb2 h=>?_)
 conv=>whnf
 refine Zz h (fun h=>?_) (fun h=>?_)
 conv=>whnf
 cases h
 obtain rfl:=hR0 _ rfl
 exact hK
 conv=>whnf
 cases h
 exact ⟨⟨rfl,rfl⟩,hI0 _ rfl⟩
 conv=>whnf
 cases h
 obtain rfl:=hR0 _ rfl
 exact hK
theorem w35 (q0:Zc Tryz.prog 148 c34):Zc Tryz.prog 89 c35:=by
 refine Zg Zr (Ze q0 Zj) mixed {loops:=[(0,[.reg 4 (.dat (.int .i64)),.ent 0 (nat_lit 178) (.flat Zv5.ety)])]} (fn:=Tryz.f89) Tryz.func89 (by kernel_rfl) (by kernel_rfl) ?_
 rintro ⟨a0,⟨⟩⟩ K ⟨r,h,hK⟩
 change Zde a0=some r at h
 unfold Zde at h
 conv=>whnf
 refine Qt h (fun hp0 h=>?_)
 conv=>whnf
 refine Qt h (fun hp1 h=>?_)
 conv=>whnf
 refine Qt h (fun hp2 h=>?_)
 conv=>whnf
 refine Qt h (fun hp3 h=>?_)
 conv=>whnf
 refine Yj h ?_
 rintro I4 μ4 ⟨i0,l0,⟨⟩⟩ zs4 h hI4 hR4
 change ZdM a0 i0 l0=some zs4 at h
 unfold ZdM at h
 conv=>whnf
 refine Zz h (fun h=>?_) (fun h=>?_)
 conv=>whnf
 refine vAt h (fun x0 he5a he5b he5x h=>?_)
 conv=>whnf
 refine Zl h (fun toPort0 hb6 h=>?_)
 conv=>whnf
 refine vAt h (fun x1 he7a he7b he7x h=>?_)
 conv=>whnf
 refine ⟨by kernel_rfl,?_⟩
 conv=>whnf
 refine ⟨by decide,?_⟩
 conv=>whnf
 refine ⟨he7a,he7b,Zp he7x ?_⟩
 conv=>whnf
 cases h
 exact ⟨⟨rfl,rfl⟩,hI4 _ rfl⟩
 conv=>whnf
 cases h
 obtain rfl:=hR4 _ rfl
 exact hK
theorem w38 (q0:Zc Tryz.prog 53 c37):Zc Tryz.prog 41 c38:=by
 refine Zg YO (Ze q0 Zj) mixed {loops:=[(0,[.reg 4 (.dat (.int .i64)),.ent 0 (nat_lit 64) Zha])]} (fn:=Tryz.f41) Tryz.func41 (by kernel_rfl) (by kernel_rfl) ?_
 rintro ⟨a0,⟨⟩⟩ K ⟨r,h,hK⟩
 change Zc6 a0=some r at h
 unfold Zc6 at h
 conv=>whnf
 refine Qt h (fun hp0 h=>?_)
 conv=>whnf
 refine Qt h (fun hp1 h=>?_)
 conv=>whnf
 refine Qt h (fun hp2 h=>?_)
 conv=>whnf
 refine Qt h (fun hp3 h=>?_)
 conv=>whnf
 intro fp4
 conv=>whnf
 refine Yj h ?_
 rintro I5 μ5 ⟨i0,l0,⟨⟩⟩ zs5 h hI5 hR5
 change ZdV a0 i0 l0=some zs5 at h
 unfold ZdV at h
 conv=>whnf
 intro fp6
 conv=>whnf
 refine Zz h (fun h=>?_) (fun h=>?_)
 conv=>whnf
 refine vAt h (fun x0 he7a he7b he7x h=>?_)
 conv=>whnf
 refine Zl h (fun toWire0 hb8 h=>?_)
 conv=>whnf
 refine vAt h (fun x1 he9a he9b he9x h=>?_)
 conv=>whnf
 refine ⟨he9a,he9b,Zp he9x ?_⟩
 conv=>whnf
 intro fp10
 conv=>whnf
 cases h
 exact ⟨⟨rfl,rfl⟩,hI5 _ rfl⟩
 conv=>whnf
 cases h
 obtain rfl:=hR5 _ rfl
 exact hK
theorem ZBy:Zc Tryz.prog 196 ZyN:=by
 refine Zg Zr Zj mixed {} (fn:=Tryz.f196) Tryz.func196 (by kernel_rfl) (by kernel_rfl) ?_
 rintro ⟨s0,⟨⟩⟩ K ⟨r,h,hK⟩
 change YZ s0=some r at h
 unfold YZ at h
 conv=>whnf
 refine ⟨fun hd=>?_,?_⟩
 have h:=Zrx (T:=(some ([]:List YB))) h (by simp [hd,Zx])
 conv=>whnf
 cases h
 exact hK
 conv=>whnf
 refine Qt h (fun hp0 h=>?_)
 conv=>whnf
 cases h
 exact hK
theorem ZAp (q0:Zc Tryz.prog 265 Zyf):Zc Tryz.prog 246 Zyb:=by
 refine Zg Zr (Ze q0 Zj) mixed {} (fn:=Tryz.f246) Tryz.func246 (by kernel_rfl) (by kernel_rfl) ?_
 rintro ⟨s0,f0,⟨⟩⟩ K ⟨r,h,hK⟩
 change ZO s0 f0=some r at h
 unfold ZO at h
 conv=>whnf
 refine Zl h (fun c1_0 hb0 h=>?_)
 conv=>whnf
 cases h
 exact hK
theorem ZCB:Zc Tryz.prog 278 ZyM:=by
 refine Zg Zr Zj mixed {loops:=[(0,[.reg 3 (.dat (.int .i64)),.reg 4 (.dat (.int .i64))])]} (fn:=Tryz.f278) Tryz.func278 (by kernel_rfl) (by kernel_rfl) ?_
 rintro ⟨x0,⟨⟩⟩ K ⟨r,h,hK⟩
 change Xv x0=some r at h
 unfold Xv at h
 conv=>whnf
 refine Zz h (fun h=>?_) (fun h=>?_)
 conv=>whnf
 cases h
 conv=>whnf
 refine vAt h (fun x1 he0a he0b he0x h=>?_)
 conv=>whnf
 refine Yj h ?_
 rintro I1 μ1 ⟨m0,i0,⟨⟩⟩ zs1 h hI1 hR1
 change Y7 x0 m0 i0=some zs1 at h
 unfold Y7 at h
 conv=>whnf
 refine Zz h (fun h=>?_) (fun h=>?_)
 conv=>whnf
 refine vAt h (fun x2 he2a he2b he2x h=>?_)
 conv=>whnf
 cases h
 exact ⟨⟨rfl,rfl⟩,hI1 _ rfl⟩
 conv=>whnf
 cases h
 obtain rfl:=hR1 _ rfl
 exact hK
theorem w86 (q0:Zc Tryz.prog 30 c78) (q1:Zc Tryz.prog 38 c85):Zc Tryz.prog 19 c86:=by
 refine Zg YO (Ze q0 (Ze q1 Zj)) mixed {} (fn:=Tryz.f19) Tryz.func19 (by kernel_rfl) (by kernel_rfl) ?_
 rintro ⟨b0,e0,⟨⟩⟩ K ⟨r,h,hK⟩
 change Qy b0 e0=some r at h
 unfold Qy at h
 conv=>whnf
 refine Zl h (fun EditCode0 hb0 h=>?_)
 conv=>whnf
 refine Yb ?_
 refine Zz h (fun h=>?_) (fun h=>?_)
 conv=>whnf
 refine Zl h (fun l08Apply0 hb1 h=>?_)
 conv=>whnf
 intro fp2
 conv=>whnf
 intro fp3
 conv=>whnf
 intro fp4
 conv=>whnf
 cases h
 exact hK
 conv=>whnf
 cases h
 exact hK
theorem w57 (q0:Zc Tryz.prog 78 c56):Zc Tryz.prog 79 c57:=by
 refine Zg Zr (Ze q0 Zj) mixed {loops:=[(0,[.reg 5 (.own (.ol 2 (.flat (.int .i64)))),.reg 7 (.dat (.int .i64))])]} (fn:=Tryz.f79) Tryz.func79 (by kernel_rfl) (by kernel_rfl) ?_
 rintro ⟨d0,net0,⟨⟩⟩ K ⟨r,h,hK⟩
 change Xw d0 net0=some r at h
 unfold Xw at h
 conv=>whnf
 refine Zl h (fun l05Places0 hb0 h=>?_)
 conv=>whnf
 refine Yj h ?_
 rintro I1 μ1 ⟨out0,i0,⟨⟩⟩ zs1 h hI1 hR1
 change JY net0 l05Places0 out0 i0=some zs1 at h
 unfold JY at h
 conv=>whnf
 refine Zz h (fun h=>?_) (fun h=>?_)
 conv=>whnf
 refine vAt h (fun x0 he2a he2b he2x h=>?_)
 conv=>whnf
 refine ⟨by kernel_rfl,?_⟩
 conv=>whnf
 refine ⟨he2a,he2b,Zp he2x ?_⟩
 conv=>whnf
 refine Zz h (fun h=>?_) (fun h=>?_)
 conv=>whnf
 refine ⟨he2a,he2b,Zp he2x ?_⟩
 conv=>whnf
 refine ⟨by kernel_rfl,?_⟩
 conv=>whnf
 refine ⟨he2a,he2b,Zp he2x ?_⟩
 conv=>whnf
 refine Yb ?_
 refine YJ h (fun h=>?_) (fun h=>?_)
 conv=>whnf
 cases h
 exact ⟨⟨rfl,rfl⟩,hI1 _ rfl⟩
 conv=>whnf
 refine Qt h (fun hp3 h=>?_)
 conv=>whnf
 cases h
 exact ⟨⟨rfl,rfl⟩,hI1 _ rfl⟩
 conv=>whnf
 cases h
 exact ⟨⟨rfl,rfl⟩,hI1 _ rfl⟩
 conv=>whnf
 cases h
 obtain rfl:=hR1 _ rfl
 exact hK
theorem w83 (q1:Zc Tryz.prog 78 c56) (q4:Zc Tryz.prog 80 c79) (q5:Zc Tryz.prog 144 c60) (q0:Zc Tryz.prog 84 c80) (q2:Zc Tryz.prog 145 c81) (q3:Zc Tryz.prog 85 c82):Zc Tryz.prog 82 c83:=by
 refine Zg YO (Ze q1 (Ze q4 (Ze q5 (Ze q0 (Ze q2 (Ze q3 Zj)))))) mixed {draws:=[(1,[0,1,3,0,8,31,63,0,255],.op 0 (.op 1 (.op 3 (.op 4 (.alt 2 (.op 5 (.op 6 (.alt 7 (.alt 8 (.done) (.done)) (.done)))) (.alt 7 (.alt 2 (.op 5 (.op 6 (.alt 8 (.done) (.done)))) (.done)) (.done))))))),(5,[0,0,3,7,0,0,32,112,240,496,1023,2047],.op 0 (.op 1 (.op 4 (.op 5 (.op 6 (.op 7 (.op 8 (.alt 2 (.alt 3 (.alt 9 (.alt 10 (.op 11 (.done)) (.done)) (.done)) (.alt 9 (.alt 3 (.alt 10 (.op 11 (.done)) (.done)) (.done)) (.done))) (.alt 9 (.alt 2 (.alt 3 (.alt 10 (.op 11 (.done)) (.done)) (.done)) (.done)) (.done)))))))))),(14,[0,1,3,0,8,31,0,64,192,0,512,1536,4095,0,8192,24576,65535,0,262143],.op 0 (.op 1 (.op 2 (.op 3 (.op 6 (.op 7 (.op 9 (.op 13 (.op 14 (.ld 8 (.ld 10 (.ld 15 (.alt 4 (.alt 5 (.alt 11 (.alt 12 (.op 16 (.alt 17 (.alt 18 (.done) (.done)) (.done))) (.alt 17 (.alt 12 (.op 16 (.alt 18 (.done) (.done))) (.done)) (.done))) (.alt 17 (.alt 11 (.alt 12 (.op 16 (.alt 18 (.done) (.done))) (.done)) (.done)) (.done))) (.alt 11 (.alt 5 (.alt 12 (.op 16 (.alt 17 (.alt 18 (.done) (.done)) (.done))) (.alt 17 (.alt 12 (.op 16 (.alt 18 (.done) (.done))) (.done)) (.done))) (.alt 17 (.alt 5 (.alt 12 (.op 16 (.alt 18 (.done) (.done))) (.done)) (.done)) (.done))) (.alt 17 (.alt 5 (.alt 11 (.alt 12 (.op 16 (.alt 18 (.done) (.done))) (.done)) (.done)) (.alt 11 (.alt 5 (.alt 12 (.op 16 (.alt 18 (.done) (.done))) (.done)) (.done)) (.done))) (.done)))) (.alt 11 (.alt 4 (.alt 5 (.alt 12 (.op 16 (.alt 17 (.alt 18 (.done) (.done)) (.done))) (.alt 17 (.alt 12 (.op 16 (.alt 18 (.done) (.done))) (.done)) (.done))) (.alt 17 (.alt 5 (.alt 12 (.op 16 (.alt 18 (.done) (.done))) (.done)) (.done)) (.done))) (.alt 17 (.alt 4 (.alt 5 (.alt 12 (.op 16 (.alt 18 (.done) (.done))) (.done)) (.done)) (.done)) (.done))) (.alt 17 (.alt 4 (.alt 5 (.alt 11 (.alt 12 (.op 16 (.alt 18 (.done) (.done))) (.done)) (.done)) (.alt 11 (.alt 5 (.alt 12 (.op 16 (.alt 18 (.done) (.done))) (.done)) (.done)) (.done))) (.alt 11 (.alt 4 (.alt 5 (.alt 12 (.op 16 (.alt 18 (.done) (.done))) (.done)) (.done)) (.done)) (.done))) (.done)))))))))))))))),(15,[0,1,0,0,8,0,32,120,255,0,1023,2047],.op 0 (.op 3 (.op 4 (.op 9 (.ld 1 (.ld 2 (.alt 5 (.alt 6 (.alt 7 (.op 8 (.alt 10 (.alt 11 (.done) (.done)) (.done))) (.done)) (.done)) (.done))))))))]} (fn:=Tryz.f82) Tryz.func82 (by kernel_rfl) (by kernel_rfl) ?_
 rintro ⟨a0,a1,⟨⟩⟩ K ⟨r,h,hK⟩
 change Zbk a0 a1=some r at h
 unfold Zbk at h
 focus
  conv=>whnf
  intro fp0
  conv=>whnf
  intro fp1
  conv=>whnf
  intro fp2
  conv=>whnf
  refine ⟨by kernel_rfl,?_⟩
  conv=>whnf
  obtain ⟨l05Places0,hb3,h⟩:=Option.bind_eq_some_iff.1 h
  obtain ⟨x0,he4a,he4b,he4x,h⟩:=atE h
  refine ⟨?_,?_⟩
  rotate_left
  focus
   conv=>whnf
   refine ⟨_,hb3,?_⟩
   conv=>whnf
   refine ⟨he4a,he4b,Zp he4x ?_⟩
   conv=>whnf
   refine ⟨by kernel_rfl,?_⟩
   conv=>whnf
   refine ⟨he4a,he4b,Zp he4x ?_⟩
   conv=>whnf
   refine ⟨trivial,?_⟩
  rotate_right
  focus
   conv=>whnf
   refine ⟨_,hb3,?_⟩
   conv=>whnf
   refine ⟨he4a,he4b,Zp he4x ?_⟩
   conv=>whnf
   refine ⟨by kernel_rfl,?_⟩
   conv=>whnf
   refine ⟨he4a,he4b,Zp he4x ?_⟩
   conv=>whnf
   refine ⟨trivial,?_⟩
  all_goals
   focus
    conv=>whnf
    refine Zl h (fun l08Nodes0 hb5 h=>?_)
    conv=>whnf
    refine ⟨by kernel_rfl,?_⟩
    conv=>whnf
    refine vAt h (fun x1 he6a he6b he6x h=>?_)
    conv=>whnf
    refine ⟨by kernel_rfl,?_⟩
    conv=>whnf
    refine ⟨he6a,he6b,Zp he6x ?_⟩
    conv=>whnf
    obtain ⟨hp7,h⟩:=guardE h
    obtain ⟨hp8,h⟩:=guardE h
    obtain ⟨l02Ints0,hb9,h⟩:=Option.bind_eq_some_iff.1 h
    obtain ⟨hp10,h⟩:=guardE h
    refine ⟨?_,?_⟩
    rotate_left
    focus
     conv=>whnf
     refine ⟨by decide,?_⟩
     conv=>whnf
     refine ⟨hp7,?_⟩
     conv=>whnf
     refine ⟨hp8,?_⟩
     conv=>whnf
     refine ⟨_,hb9,?_⟩
     conv=>whnf
     refine ⟨hp10,?_⟩
     conv=>whnf
     refine ⟨trivial,?_⟩
    rotate_right
    focus
     conv=>whnf
     refine ⟨by decide,?_⟩
     conv=>whnf
     refine ⟨hp7,?_⟩
     conv=>whnf
     refine ⟨hp8,?_⟩
     conv=>whnf
     refine ⟨?_,?_⟩
     rotate_left
     focus
      conv=>whnf
      refine ⟨_,hb9,?_⟩
      conv=>whnf
      refine ⟨hp10,?_⟩
      conv=>whnf
      refine ⟨trivial,?_⟩
     rotate_right
     focus
      conv=>whnf
      refine ⟨_,hb9,?_⟩
      conv=>whnf
      refine ⟨hp10,?_⟩
      conv=>whnf
      refine ⟨trivial,?_⟩
    all_goals
     conv=>whnf
     refine ⟨hp7,?_⟩
     conv=>whnf
     refine ⟨hp8,?_⟩
     conv=>whnf
     refine Qt h (fun hp11 h=>?_)
     conv=>whnf
     refine Qt h (fun hp12 h=>?_)
     conv=>whnf
     refine Zl h (fun l08Connect0 hb13 h=>?_)
     conv=>whnf
     intro fp14
     conv=>whnf
     refine Zz h (fun h=>?_) (fun h=>?_)
     focus
      conv=>whnf
      refine vAt h (fun x2 he15a he15b he15x h=>?_)
      conv=>whnf
      refine ⟨by kernel_rfl,?_⟩
      conv=>whnf
      refine ⟨by decide,?_⟩
      conv=>whnf
      refine ⟨he15a,he15b,Zp he15x ?_⟩
      conv=>whnf
      refine ⟨by kernel_rfl,?_⟩
      conv=>whnf
      refine ⟨by kernel_rfl,?_⟩
      conv=>whnf
      refine ⟨by kernel_rfl,?_⟩
      conv=>whnf
      refine ⟨by kernel_rfl,?_⟩
      conv=>whnf
      obtain ⟨hp17,h⟩:=guardE h
      obtain ⟨hp19,h⟩:=guardE h
      refine ⟨?_,?_⟩
      rotate_left
      focus
       conv=>whnf
       refine ⟨?_,?_⟩
       rotate_left
       focus
        conv=>whnf
        refine ⟨?_,?_⟩
        rotate_left
        focus
         conv=>whnf
         intro fp29
         conv=>whnf
         refine ⟨by kernel_rfl,?_⟩
         conv=>whnf
         refine ⟨hp17,?_⟩
         conv=>whnf
         intro fp30
         conv=>whnf
         refine ⟨by kernel_rfl,?_⟩
         conv=>whnf
         refine ⟨hp19,?_⟩
         conv=>whnf
         refine ⟨trivial,?_⟩
        rotate_right
        focus
         conv=>whnf
         intro fp29
         conv=>whnf
         refine ⟨?_,?_⟩
         rotate_left
         focus
          conv=>whnf
          refine ⟨by kernel_rfl,?_⟩
          conv=>whnf
          refine ⟨hp17,?_⟩
          conv=>whnf
          intro fp30
          conv=>whnf
          refine ⟨by kernel_rfl,?_⟩
          conv=>whnf
          refine ⟨hp19,?_⟩
          conv=>whnf
          refine ⟨trivial,?_⟩
         rotate_right
         focus
          conv=>whnf
          refine ⟨by kernel_rfl,?_⟩
          conv=>whnf
          refine ⟨hp17,?_⟩
          conv=>whnf
          intro fp30
          conv=>whnf
          refine ⟨by kernel_rfl,?_⟩
          conv=>whnf
          refine ⟨hp19,?_⟩
          conv=>whnf
          refine ⟨trivial,?_⟩
       rotate_right
       focus
        conv=>whnf
        refine ⟨?_,?_⟩
        rotate_left
        focus
         conv=>whnf
         intro fp29
         conv=>whnf
         refine ⟨by kernel_rfl,?_⟩
         conv=>whnf
         refine ⟨hp17,?_⟩
         conv=>whnf
         intro fp30
         conv=>whnf
         refine ⟨by kernel_rfl,?_⟩
         conv=>whnf
         refine ⟨hp19,?_⟩
         conv=>whnf
         refine ⟨trivial,?_⟩
        rotate_right
        focus
         conv=>whnf
         intro fp29
         conv=>whnf
         refine ⟨?_,?_⟩
         rotate_left
         focus
          conv=>whnf
          refine ⟨by kernel_rfl,?_⟩
          conv=>whnf
          refine ⟨hp17,?_⟩
          conv=>whnf
          intro fp30
          conv=>whnf
          refine ⟨by kernel_rfl,?_⟩
          conv=>whnf
          refine ⟨hp19,?_⟩
          conv=>whnf
          refine ⟨trivial,?_⟩
         rotate_right
         focus
          conv=>whnf
          refine ⟨by kernel_rfl,?_⟩
          conv=>whnf
          refine ⟨hp17,?_⟩
          conv=>whnf
          intro fp30
          conv=>whnf
          refine ⟨?_,?_⟩
          rotate_left
          focus
           conv=>whnf
           refine ⟨by kernel_rfl,?_⟩
           conv=>whnf
           refine ⟨hp19,?_⟩
           conv=>whnf
           refine ⟨trivial,?_⟩
          rotate_right
          focus
           conv=>whnf
           refine ⟨by kernel_rfl,?_⟩
           conv=>whnf
           refine ⟨hp19,?_⟩
           conv=>whnf
           refine ⟨trivial,?_⟩
      rotate_right
      focus
       conv=>whnf
       intro fp29
       conv=>whnf
       refine ⟨?_,?_⟩
       rotate_left
       focus
        conv=>whnf
        refine ⟨?_,?_⟩
        rotate_left
        focus
         conv=>whnf
         refine ⟨?_,?_⟩
         rotate_left
         focus
          conv=>whnf
          refine ⟨by kernel_rfl,?_⟩
          conv=>whnf
          refine ⟨hp17,?_⟩
          conv=>whnf
          intro fp30
          conv=>whnf
          refine ⟨by kernel_rfl,?_⟩
          conv=>whnf
          refine ⟨hp19,?_⟩
          conv=>whnf
          refine ⟨trivial,?_⟩
         rotate_right
         focus
          conv=>whnf
          refine ⟨by kernel_rfl,?_⟩
          conv=>whnf
          refine ⟨hp17,?_⟩
          conv=>whnf
          intro fp30
          conv=>whnf
          refine ⟨by kernel_rfl,?_⟩
          conv=>whnf
          refine ⟨hp19,?_⟩
          conv=>whnf
          refine ⟨trivial,?_⟩
        rotate_right
        focus
         conv=>whnf
         refine ⟨?_,?_⟩
         rotate_left
         focus
          conv=>whnf
          refine ⟨by kernel_rfl,?_⟩
          conv=>whnf
          refine ⟨hp17,?_⟩
          conv=>whnf
          intro fp30
          conv=>whnf
          refine ⟨by kernel_rfl,?_⟩
          conv=>whnf
          refine ⟨hp19,?_⟩
          conv=>whnf
          refine ⟨trivial,?_⟩
         rotate_right
         focus
          conv=>whnf
          refine ⟨by kernel_rfl,?_⟩
          conv=>whnf
          refine ⟨hp17,?_⟩
          conv=>whnf
          intro fp30
          conv=>whnf
          refine ⟨?_,?_⟩
          rotate_left
          focus
           conv=>whnf
           refine ⟨by kernel_rfl,?_⟩
           conv=>whnf
           refine ⟨hp19,?_⟩
           conv=>whnf
           refine ⟨trivial,?_⟩
          rotate_right
          focus
           conv=>whnf
           refine ⟨by kernel_rfl,?_⟩
           conv=>whnf
           refine ⟨hp19,?_⟩
           conv=>whnf
           refine ⟨trivial,?_⟩
       rotate_right
       focus
        conv=>whnf
        refine ⟨by kernel_rfl,?_⟩
        conv=>whnf
        refine ⟨hp17,?_⟩
        conv=>whnf
        intro fp30
        conv=>whnf
        refine ⟨?_,?_⟩
        rotate_left
        focus
         conv=>whnf
         refine ⟨by kernel_rfl,?_⟩
         conv=>whnf
         refine ⟨hp19,?_⟩
         conv=>whnf
         refine ⟨trivial,?_⟩
        rotate_right
        focus
         conv=>whnf
         refine ⟨?_,?_⟩
         rotate_left
         focus
          conv=>whnf
          refine ⟨by kernel_rfl,?_⟩
          conv=>whnf
          refine ⟨hp19,?_⟩
          conv=>whnf
          refine ⟨trivial,?_⟩
         rotate_right
         focus
          conv=>whnf
          refine ⟨by kernel_rfl,?_⟩
          conv=>whnf
          refine ⟨hp19,?_⟩
          conv=>whnf
          refine ⟨trivial,?_⟩
      all_goals
       conv=>whnf
       refine ⟨by kernel_rfl,?_⟩
       conv=>whnf
       refine ⟨by kernel_rfl,?_⟩
       conv=>whnf
       refine ⟨by kernel_rfl,?_⟩
       conv=>whnf
       refine Zl h (fun l07Lumped0 hb20 h=>?_)
       conv=>whnf
       intro fp21
       conv=>whnf
       refine ⟨by kernel_rfl,?_⟩
       conv=>whnf
       refine Qt h (fun hp22 h=>?_)
       conv=>whnf
       intro fp23
       conv=>whnf
       refine Zl h (fun l08Attach0 hb24 h=>?_)
       conv=>whnf
       intro fp25
       conv=>whnf
       intro fp26
       conv=>whnf
       intro fp27
       conv=>whnf
       refine ⟨trivial,?_⟩
       conv=>whnf
       cases h
       exact hK
     focus
      conv=>whnf
      refine vAt h (fun x2 he31a he31b he31x h=>?_)
      conv=>whnf
      refine ⟨by kernel_rfl,?_⟩
      conv=>whnf
      refine ⟨by decide,?_⟩
      conv=>whnf
      refine ⟨he31a,he31b,Zp he31x ?_⟩
      conv=>whnf
      refine ⟨by kernel_rfl,?_⟩
      conv=>whnf
      refine ⟨by kernel_rfl,?_⟩
      conv=>whnf
      refine ⟨by kernel_rfl,?_⟩
      conv=>whnf
      refine ⟨by kernel_rfl,?_⟩
      conv=>whnf
      obtain ⟨hp33,h⟩:=guardE h
      obtain ⟨hp35,h⟩:=guardE h
      refine ⟨?_,?_⟩
      rotate_left
      focus
       conv=>whnf
       refine ⟨?_,?_⟩
       rotate_left
       focus
        conv=>whnf
        refine ⟨?_,?_⟩
        rotate_left
        focus
         conv=>whnf
         intro fp45
         conv=>whnf
         refine ⟨by kernel_rfl,?_⟩
         conv=>whnf
         refine ⟨hp33,?_⟩
         conv=>whnf
         intro fp46
         conv=>whnf
         refine ⟨by kernel_rfl,?_⟩
         conv=>whnf
         refine ⟨hp35,?_⟩
         conv=>whnf
         refine ⟨trivial,?_⟩
        rotate_right
        focus
         conv=>whnf
         intro fp45
         conv=>whnf
         refine ⟨?_,?_⟩
         rotate_left
         focus
          conv=>whnf
          refine ⟨by kernel_rfl,?_⟩
          conv=>whnf
          refine ⟨hp33,?_⟩
          conv=>whnf
          intro fp46
          conv=>whnf
          refine ⟨by kernel_rfl,?_⟩
          conv=>whnf
          refine ⟨hp35,?_⟩
          conv=>whnf
          refine ⟨trivial,?_⟩
         rotate_right
         focus
          conv=>whnf
          refine ⟨by kernel_rfl,?_⟩
          conv=>whnf
          refine ⟨hp33,?_⟩
          conv=>whnf
          intro fp46
          conv=>whnf
          refine ⟨by kernel_rfl,?_⟩
          conv=>whnf
          refine ⟨hp35,?_⟩
          conv=>whnf
          refine ⟨trivial,?_⟩
       rotate_right
       focus
        conv=>whnf
        refine ⟨?_,?_⟩
        rotate_left
        focus
         conv=>whnf
         intro fp45
         conv=>whnf
         refine ⟨by kernel_rfl,?_⟩
         conv=>whnf
         refine ⟨hp33,?_⟩
         conv=>whnf
         intro fp46
         conv=>whnf
         refine ⟨by kernel_rfl,?_⟩
         conv=>whnf
         refine ⟨hp35,?_⟩
         conv=>whnf
         refine ⟨trivial,?_⟩
        rotate_right
        focus
         conv=>whnf
         intro fp45
         conv=>whnf
         refine ⟨?_,?_⟩
         rotate_left
         focus
          conv=>whnf
          refine ⟨by kernel_rfl,?_⟩
          conv=>whnf
          refine ⟨hp33,?_⟩
          conv=>whnf
          intro fp46
          conv=>whnf
          refine ⟨by kernel_rfl,?_⟩
          conv=>whnf
          refine ⟨hp35,?_⟩
          conv=>whnf
          refine ⟨trivial,?_⟩
         rotate_right
         focus
          conv=>whnf
          refine ⟨by kernel_rfl,?_⟩
          conv=>whnf
          refine ⟨hp33,?_⟩
          conv=>whnf
          intro fp46
          conv=>whnf
          refine ⟨?_,?_⟩
          rotate_left
          focus
           conv=>whnf
           refine ⟨by kernel_rfl,?_⟩
           conv=>whnf
           refine ⟨hp35,?_⟩
           conv=>whnf
           refine ⟨trivial,?_⟩
          rotate_right
          focus
           conv=>whnf
           refine ⟨by kernel_rfl,?_⟩
           conv=>whnf
           refine ⟨hp35,?_⟩
           conv=>whnf
           refine ⟨trivial,?_⟩
      rotate_right
      focus
       conv=>whnf
       intro fp45
       conv=>whnf
       refine ⟨?_,?_⟩
       rotate_left
       focus
        conv=>whnf
        refine ⟨?_,?_⟩
        rotate_left
        focus
         conv=>whnf
         refine ⟨?_,?_⟩
         rotate_left
         focus
          conv=>whnf
          refine ⟨by kernel_rfl,?_⟩
          conv=>whnf
          refine ⟨hp33,?_⟩
          conv=>whnf
          intro fp46
          conv=>whnf
          refine ⟨by kernel_rfl,?_⟩
          conv=>whnf
          refine ⟨hp35,?_⟩
          conv=>whnf
          refine ⟨trivial,?_⟩
         rotate_right
         focus
          conv=>whnf
          refine ⟨by kernel_rfl,?_⟩
          conv=>whnf
          refine ⟨hp33,?_⟩
          conv=>whnf
          intro fp46
          conv=>whnf
          refine ⟨by kernel_rfl,?_⟩
          conv=>whnf
          refine ⟨hp35,?_⟩
          conv=>whnf
          refine ⟨trivial,?_⟩
        rotate_right
        focus
         conv=>whnf
         refine ⟨?_,?_⟩
         rotate_left
         focus
          conv=>whnf
          refine ⟨by kernel_rfl,?_⟩
          conv=>whnf
          refine ⟨hp33,?_⟩
          conv=>whnf
          intro fp46
          conv=>whnf
          refine ⟨by kernel_rfl,?_⟩
          conv=>whnf
          refine ⟨hp35,?_⟩
          conv=>whnf
          refine ⟨trivial,?_⟩
         rotate_right
         focus
          conv=>whnf
          refine ⟨by kernel_rfl,?_⟩
          conv=>whnf
          refine ⟨hp33,?_⟩
          conv=>whnf
          intro fp46
          conv=>whnf
          refine ⟨?_,?_⟩
          rotate_left
          focus
           conv=>whnf
           refine ⟨by kernel_rfl,?_⟩
           conv=>whnf
           refine ⟨hp35,?_⟩
           conv=>whnf
           refine ⟨trivial,?_⟩
          rotate_right
          focus
           conv=>whnf
           refine ⟨by kernel_rfl,?_⟩
           conv=>whnf
           refine ⟨hp35,?_⟩
           conv=>whnf
           refine ⟨trivial,?_⟩
       rotate_right
       focus
        conv=>whnf
        refine ⟨by kernel_rfl,?_⟩
        conv=>whnf
        refine ⟨hp33,?_⟩
        conv=>whnf
        intro fp46
        conv=>whnf
        refine ⟨?_,?_⟩
        rotate_left
        focus
         conv=>whnf
         refine ⟨by kernel_rfl,?_⟩
         conv=>whnf
         refine ⟨hp35,?_⟩
         conv=>whnf
         refine ⟨trivial,?_⟩
        rotate_right
        focus
         conv=>whnf
         refine ⟨?_,?_⟩
         rotate_left
         focus
          conv=>whnf
          refine ⟨by kernel_rfl,?_⟩
          conv=>whnf
          refine ⟨hp35,?_⟩
          conv=>whnf
          refine ⟨trivial,?_⟩
         rotate_right
         focus
          conv=>whnf
          refine ⟨by kernel_rfl,?_⟩
          conv=>whnf
          refine ⟨hp35,?_⟩
          conv=>whnf
          refine ⟨trivial,?_⟩
      all_goals
       conv=>whnf
       refine ⟨by kernel_rfl,?_⟩
       conv=>whnf
       refine ⟨by kernel_rfl,?_⟩
       conv=>whnf
       refine ⟨by kernel_rfl,?_⟩
       conv=>whnf
       refine Zl h (fun l07Lumped0 hb36 h=>?_)
       conv=>whnf
       intro fp37
       conv=>whnf
       refine ⟨by kernel_rfl,?_⟩
       conv=>whnf
       refine Qt h (fun hp38 h=>?_)
       conv=>whnf
       intro fp39
       conv=>whnf
       refine Zl h (fun l08Attach0 hb40 h=>?_)
       conv=>whnf
       intro fp41
       conv=>whnf
       intro fp42
       conv=>whnf
       intro fp43
       conv=>whnf
       refine ⟨trivial,?_⟩
       conv=>whnf
       cases h
       exact hK
theorem w88 (q1:Zc Tryz.prog 78 c56) (q2:Zc Tryz.prog 79 c57) (q3:Zc Tryz.prog 80 c79) (q0:Zc Tryz.prog 81 c66):Zc Tryz.prog 37 c88:=by
 refine Zg Zr (Ze q1 (Ze q2 (Ze q3 (Ze q0 Zj)))) mixed {draws:=[(4,[0,1,0,4,12,0,0,64,224,480,992,2044,4092,8188,16383,32767],.op 0 (.op 1 (.op 2 (.op 3 (.op 4 (.op 5 (.op 6 (.op 7 (.op 8 (.op 9 (.op 10 (.op 11 (.op 12 (.op 13 (.op 14 (.alt 15 (.done) (.done))))))))))))))))),(14,[0,1,0,0,8,28,60,124,0,256,0,1024,3840,7936,16383,32767],.op 0 (.op 1 (.op 2 (.op 3 (.op 4 (.op 5 (.op 6 (.op 7 (.op 8 (.op 10 (.op 11 (.alt 9 (.op 12 (.op 13 (.op 14 (.alt 15 (.done) (.done))))) (.done))))))))))))),(15,[0,1,0,4,0,16,60,124,252,511,1023],.op 0 (.op 1 (.op 2 (.op 3 (.op 4 (.op 5 (.op 6 (.op 7 (.alt 8 (.op 9 (.alt 10 (.done) (.done))) (.done))))))))))]} (fn:=Tryz.f37) Tryz.func37 (by kernel_rfl) (by kernel_rfl) ?_
 rintro ⟨a0,a1,⟨⟩⟩ K ⟨r,h,hK⟩
 change JR a0 a1=some r at h
 unfold JR at h
 conv=>whnf
 refine Zl h (fun l05Places0 hb0 h=>?_)
 conv=>whnf
 refine Zz h (fun h=>?_) (fun h=>?_)
 conv=>whnf
 refine ⟨by kernel_rfl,?_⟩
 conv=>whnf
 refine vAt h (fun x0 he1a he1b he1x h=>?_)
 conv=>whnf
 refine ⟨by kernel_rfl,?_⟩
 conv=>whnf
 refine ⟨he1a,he1b,Zp he1x ?_⟩
 conv=>whnf
 refine vAt h (fun x1 he2a he2b he2x h=>?_)
 conv=>whnf
 refine ⟨trivial,?_⟩
 conv=>whnf
 cases h
 exact hK
 conv=>whnf
 refine Zz h (fun h=>?_) (fun h=>?_)
 conv=>whnf
 cases h
 exact hK
 conv=>whnf
 refine Zz h (fun h=>?_) (fun h=>?_)
 conv=>whnf
 refine vAt h (fun x0 he3a he3b he3x h=>?_)
 conv=>whnf
 refine Zl h (fun l05Sinks0 hb4 h=>?_)
 conv=>whnf
 refine vAt h (fun x1 he5a he5b he5x h=>?_)
 conv=>whnf
 refine ⟨by kernel_rfl,?_⟩
 conv=>whnf
 refine ⟨he5a,he5b,Zp he5x ?_⟩
 conv=>whnf
 refine vAt h (fun x2 he6a he6b he6x h=>?_)
 conv=>whnf
 refine ⟨by kernel_rfl,?_⟩
 conv=>whnf
 refine ⟨he6a,he6b,Zp he6x ?_⟩
 conv=>whnf
 refine Zz h (fun h=>?_) (fun h=>?_)
 conv=>whnf
 cases h
 exact hK
 conv=>whnf
 cases h
 exact hK
 conv=>whnf
 refine Zz h (fun h=>?_) (fun h=>?_)
 conv=>whnf
 refine ⟨by kernel_rfl,?_⟩
 conv=>whnf
 refine vAt h (fun x0 he7a he7b he7x h=>?_)
 conv=>whnf
 refine ⟨by kernel_rfl,?_⟩
 conv=>whnf
 refine ⟨he7a,he7b,Zp he7x ?_⟩
 conv=>whnf
 refine Zl h (fun l08Nodes0 hb8 h=>?_)
 conv=>whnf
 refine vAt h (fun x1 he9a he9b he9x h=>?_)
 conv=>whnf
 refine ⟨by kernel_rfl,?_⟩
 conv=>whnf
 refine ⟨he9a,he9b,Zp he9x ?_⟩
 conv=>whnf
 refine ⟨trivial,?_⟩
 conv=>whnf
 cases h
 exact hK
 conv=>whnf
 refine ⟨by kernel_rfl,?_⟩
 conv=>whnf
 refine vAt h (fun x0 he10a he10b he10x h=>?_)
 conv=>whnf
 refine Zl h (fun l07OwnWire0 hb11 h=>?_)
 conv=>whnf
 refine ⟨trivial,?_⟩
 conv=>whnf
 cases h
 exact hK
theorem w76 (q0:Zc Tryz.prog 123 c71) (q1:Zc Tryz.prog 79 c57) (q2:Zc Tryz.prog 175 c75):Zc Tryz.prog 127 c76:=by
 refine Zg Zr (Ze q0 (Ze q1 (Ze q2 Zj))) mixed {draws:=[(6,[0,1,3,0,8,31,63,127,255,511,1023,2047,4095,8191,1023,32767,65535,131071,262143,524287,1048575,262143,4194303,8388607,262143,17039359,67108863,134217727,268435455,536870911,1073741823,2147483647,4294967295,536870911,17179869183,34359738367],.op 0 (.op 1 (.op 2 (.op 3 (.op 4 (.op 5 (.op 6 (.alt 7 (.op 8 (.op 9 (.op 10 (.op 11 (.op 12 (.op 13 (.op 14 (.op 15 (.op 16 (.op 17 (.op 18 (.op 19 (.op 20 (.op 21 (.op 22 (.op 23 (.op 24 (.op 25 (.op 26 (.op 27 (.op 28 (.op 29 (.op 30 (.op 31 (.op 32 (.op 33 (.op 34 (.op 35 (.done))))))))))))))))))))))))))))) (.done)))))))))]} (fn:=Tryz.f127) Tryz.func127 (by kernel_rfl) (by kernel_rfl) ?_
 rintro ⟨a0,⟨⟩⟩ K ⟨r,h,hK⟩
 change Zc3 a0=some r at h
 unfold Zc3 at h
 conv=>whnf
 refine Zz h (fun h=>?_) (fun h=>?_)
 conv=>whnf
 cases h
 exact hK
 conv=>whnf
 refine vAt h (fun x0 he0a he0b he0x h=>?_)
 conv=>whnf
 refine ⟨by kernel_rfl,?_⟩
 conv=>whnf
 refine vAt h (fun x1 he1a he1b he1x h=>?_)
 conv=>whnf
 refine Zl h (fun l08Buffer0 hb2 h=>?_)
 conv=>whnf
 refine ZeX ?_
 refine YJ h (fun h=>?_) (fun h=>?_)
 conv=>whnf
 refine vAt h (fun x2 he3a he3b he3x h=>?_)
 conv=>whnf
 refine ZeX ?_
 refine Zz h (fun h=>?_) (fun h=>?_)
 conv=>whnf
 refine vAt h (fun x3 he4a he4b he4x h=>?_)
 conv=>whnf
 refine ZeX ?_
 refine Zz h (fun h=>?_) (fun h=>?_)
 conv=>whnf
 refine vAt h (fun x4 he5a he5b he5x h=>?_)
 conv=>whnf
 refine ⟨trivial,?_⟩
 conv=>whnf
 refine Zz h (fun h=>?_) (fun h=>?_)
 conv=>whnf
 cases h
 exact hK
 conv=>whnf
 refine Zl h (fun l05Sinks0 hb6 h=>?_)
 conv=>whnf
 refine Zz h (fun h=>?_) (fun h=>?_)
 conv=>whnf
 refine vAt h (fun x5 he7a he7b he7x h=>?_)
 conv=>whnf
 refine Zl h (fun l08Bare0 hb8 h=>?_)
 conv=>whnf
 cases h
 exact hK
 conv=>whnf
 cases h
 exact hK
 conv=>whnf
 refine ⟨trivial,?_⟩
 conv=>whnf
 cases h
 exact hK
 conv=>whnf
 refine ⟨trivial,?_⟩
 conv=>whnf
 cases h
 exact hK
 conv=>whnf
 refine ⟨trivial,?_⟩
 conv=>whnf
 cases h
 exact hK
end Go.Proofs.YtehkanadahncgaaGreatDoor
