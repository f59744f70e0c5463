/-
  The functions keep their contracts, if what they call does. Printed by program.
-/
import Derived.Test.YtfndhpjedmopdaaGreatDoorM
import Derived.KernelRfl
namespace Go.Proofs.YtfndhpjedmopdaaGreatDoor
open Go Go.Sx
set_option maxRecDepth 100000
set_option maxHeartbeats 3200000
set_option linter.unusedVariables false
set_option linter.unusedSimpArgs false
structure Ws0:Prop where
 w152:Zc Tryz.prog 121 Zxi→Zc Tryz.prog 209 Zrh→Zc Tryz.prog 210 ZBo→Zc Tryz.prog 211 ZxN→Zc Tryz.prog 156 c152
 w211:Zc Tryz.prog 66 ZzP
 w254:Zc Tryz.prog 73 ZAx
 w246:Zc Tryz.prog 31 Zxo→Zc Tryz.prog 48 Zz6
 w11:Zc Tryz.prog 139 c10→Zc Tryz.prog 77 c11
 w66:Zc Tryz.prog 134 c61→Zc Tryz.prog 144 c48→Zc Tryz.prog 111 c66
set_option maxHeartbeats 100000000 in
theorem ws0:Ws0:=by
 refine ⟨(fun q0 q3 q1 q2=>Zf Zq (Ze q0 (Ze q3 (Ze q1 (Ze q2 Zj)))) mixed {} (fn:=Tryz.f156) Tryz.func156 (by kernel_rfl) (by kernel_rfl) ?_),
 (Zf Zq Zj mixed {loops:=[(0,[.reg 5 (.dat (.int .i64))])],draws:=[(6,[0,0,3,7,0,0,48,112,255],.op 0 (.op 1 (.op 2 (.op 3 (.op 4 (.op 5 (.op 6 (.op 7 (.op 8 (.done))))))))))]} (fn:=Tryz.f66) Tryz.func66 (by kernel_rfl) (by kernel_rfl) ?_),
 (Zf Zq Zj mixed {loops:=[(0,[.reg 1 (.dat (.int .i64)),.reg 5 (.dat (.int .i64))])]} (fn:=Tryz.f73) Tryz.func73 (by kernel_rfl) (by kernel_rfl) ?_),
 (fun q0=>Zf YO (Ze q0 Zj) mixed {loops:=[(0,[.reg 1 (.dat (.int .i64)),.reg 5 (.dat (.int .i64)),.ent 0 (nat_lit 72) (Dp.pair (Dp.ol (2:Go.TypeId) (Dp.flat (Ty.int IntKind.i64))) (Dp.pair (Dp.ol (2:Go.TypeId) (Dp.flat (Ty.int IntKind.i64))) (Dp.pair (Dp.ol (2:Go.TypeId) (Dp.flat (Ty.int IntKind.i64))) (Dp.pair (Dp.ol (2:Go.TypeId) (Dp.flat (Ty.int IntKind.i64))) (Dp.flat Ty.unit)))))])]} (fn:=Tryz.f48) Tryz.func48 (by kernel_rfl) (by kernel_rfl) ?_),
 (fun q0=>Zf Zq (Ze q0 Zj) mixed {loops:=[(0,[.reg 1 (.dat (.int .i64)),.reg 5 (.dat (.int .i64))])]} (fn:=Tryz.f77) Tryz.func77 (by kernel_rfl) (by kernel_rfl) ?_),
 (fun q0 q1=>Zf Zq (Ze q0 (Ze q1 Zj)) mixed {draws:=[(9,[0,1,0,4,15,31,63,127,63,319,1023,2047,4095,8191,16383,8191,40959,8191,139263,499711,1023999,2072575,4169727,8364031,16777215,33554431,67108863],.op 0 (.op 1 (.op 2 (.op 3 (.alt 4 (.op 5 (.op 6 (.op 7 (.op 8 (.op 9 (.alt 10 (.op 11 (.op 12 (.op 13 (.op 14 (.op 15 (.op 16 (.op 17 (.op 18 (.op 19 (.op 20 (.op 21 (.op 22 (.op 23 (.alt 24 (.op 25 (.op 26 (.done))) (.done))))))))))))))) (.done))))))) (.done))))))]} (fn:=Tryz.f111) Tryz.func111 (by kernel_rfl) (by kernel_rfl) ?_)⟩
 all_goals
  intro a
  repeat rcases a with ⟨_,a⟩
  rintro K ⟨r,h,hK⟩
  repeat'
    conv=>whnf
    first
    | with_reducible refine Ztb ?_
    | with_reducible refine Zk8 (by assumption) (by assumption) (by assumption) ?_
    | with_reducible refine Zv (by assumption) ?_
    | with_reducible refine Zk5 (by assumption) ?_
    | (with_reducible refine shD ?_);first | refine ZC h (fun h=>?_) (fun h=>?_) | refine ZiY h (fun h=>?_) (fun h=>?_)
    | (with_reducible refine ZsW ?_);first | refine Zel ?_ | refine Ya ?_
    | (with_reducible refine ZxR ?_);first | refine YN h (fun h=>?_) (fun h=>?_) | refine Ztq h (fun h=>?_) (fun h=>?_)
    | (with_reducible refine ZxY ?_);first | refine Zl h (fun x hb h=>?_) | (obtain ⟨x,hb,h⟩:=ZfA h) | (obtain ⟨hp,h⟩:=guardE h)
    | (with_reducible refine ZxV ?_);first | refine vAt h (fun x ha hb hx h=>?_) | (obtain ⟨x,ha,hb,hx,h⟩:=atE h) | (obtain ⟨x,hb,h⟩:=ZfA h) | (obtain ⟨hp,h⟩:=guardE h)
    | (with_reducible refine Zs0 ?_);first | refine Zs7 h (fun x hb h=>?_) | (obtain ⟨x,ha,hb,hx,h⟩:=atE h) | (obtain ⟨x,hb,h⟩:=ZfA h) | (obtain ⟨hp,h⟩:=guardE h)
    | with_reducible refine ZxZ ?_
    | (with_reducible refine ZoS ?_);refine ZoR h hK ?_;clear h hK;intro I μ v r h hK;(repeat rcases v with ⟨_,v⟩);(try dsimp only at h)
    | with_reducible refine ⟨by assumption,?_⟩
    | with_reducible refine orL ?_
    | with_reducible refine .inr ?_
    | (with_reducible refine Ztp ?_);first | refine ⟨?_,True.intro⟩ | refine ⟨?_,?_⟩
    | refine ⟨by kernel_rfl,?_⟩
    | refine ⟨by decide,?_⟩
    | refine YU h (fun hp h=>?_)
    | intro fp
    | exact trivial
    | with_reducible exact Ztf h
    | obtain rfl:=Option.some.inj h;repeat (first | exact hK | exact ⟨⟨rfl,rfl⟩,hK.1 _ rfl⟩ | (obtain ⟨_,e,hK⟩:=hK;obtain rfl:=e _ rfl))
    | (obtain ⟨x,ha,hb,hx,h⟩:=atE h)
    | (obtain ⟨x,hb,h⟩:=ZfA h)
    | (obtain ⟨hp,h⟩:=guardE h)
theorem ZC4 (q0:Zc Tryz.prog 119 ZsN):Zc Tryz.prog 164 Zyz:=by
 refine Zf Zq (Ze q0 Zj) mixed {loops:=[(0,[.reg 16 (.dat (.int .i64)),.entm 1 (Zqt.ty) (Zqt.ety),.ent 2 (nat_lit 3) (.flat Zrq.ety)])],draws:=[(7,[0,0,2,0,8,30,0,64,0,256,960,1984,4032,0,0,16384,57344,122880,262080,524224,1048575],.op 0 (.op 1 (.op 2 (.op 3 (.op 4 (.op 5 (.op 6 (.op 7 (.op 8 (.op 9 (.op 10 (.op 11 (.op 12 (.op 13 (.op 14 (.op 15 (.op 16 (.op 17 (.op 18 (.op 19 (.alt 20 (.done) (.done))))))))))))))))))))))]} (fn:=Tryz.f164) Tryz.func164 (by kernel_rfl) (by kernel_rfl) ?_
 rintro ⟨b0,⟨⟩⟩ K ⟨r,h,hK⟩
 change XQ b0=some r at h
 unfold XQ at h
 conv=>whnf
 refine YU h (fun hp0 h=>?_)
 conv=>whnf
 refine YU h (fun hp1 h=>?_)
 conv=>whnf
 refine YU h (fun hp2 h=>?_)
 conv=>whnf
 refine YU h (fun hp3 h=>?_)
 conv=>whnf
 refine Zl h (fun places0 hb4 h=>?_)
 conv=>whnf
 refine Yu h ?_
 rintro I5 μ5 ⟨v0,m0,l0,⟨⟩⟩ zs5 h hI5 hR5
 change Qi b0 places0 v0 m0 l0=some zs5 at h
 unfold Qi at h
 conv=>whnf
 refine ZC h (fun h=>?_) (fun h=>?_)
 conv=>whnf
 refine vAt h (fun x0 he6a he6b he6x h=>?_)
 conv=>whnf
 refine ⟨by kernel_rfl,?_⟩
 conv=>whnf
 refine ⟨he6a,he6b,Zv he6x ?_⟩
 conv=>whnf
 refine Ya ?_
 refine YN h (fun h=>?_) (fun h=>?_)
 conv=>whnf
 cases h
 exact ⟨⟨rfl,rfl⟩,hI5 _ rfl⟩
 conv=>whnf
 refine ⟨by kernel_rfl,?_⟩
 conv=>whnf
 refine vAt h (fun x1 he7a he7b he7x h=>?_)
 conv=>whnf
 refine vAt h (fun x2 he8a he8b he8x h=>?_)
 conv=>whnf
 refine ⟨by kernel_rfl,?_⟩
 conv=>whnf
 refine ⟨he8a,he8b,Zv he8x ?_⟩
 conv=>whnf
 refine vAt h (fun x3 he9a he9b he9x h=>?_)
 conv=>whnf
 refine ⟨trivial,?_⟩
 conv=>whnf
 refine ⟨he8a,he8b,Zv he8x ?_⟩
 conv=>whnf
 refine ⟨by kernel_rfl,?_⟩
 conv=>whnf
 refine ⟨he8a,he8b,Zv he8x ?_⟩
 conv=>whnf
 refine ⟨he8a,he8b,Zv he8x ?_⟩
 conv=>whnf
 refine ⟨by kernel_rfl,?_⟩
 conv=>whnf
 refine ⟨by decide,?_⟩
 conv=>whnf
 refine ⟨he8a,he8b,Zv he8x ?_⟩
 conv=>whnf
 cases h
 exact ⟨⟨rfl,rfl⟩,hI5 _ rfl⟩
 conv=>whnf
 cases h
 obtain rfl:=hR5 _ rfl
 exact hK
theorem ZEZ (q1:Zc Tryz.prog 91 ZBk) (q0:Zc Tryz.prog 93 ZzL):Zc Tryz.prog 62 c171:=by
 refine Zf Zq (Ze q1 (Ze q0 Zj)) mixed {} (fn:=Tryz.f62) Tryz.func62 (by kernel_rfl) (by kernel_rfl) ?_
 rintro ⟨b0,e0,⟨⟩⟩ K ⟨r,h,hK⟩
 change Zcv b0 e0=some r at h
 unfold Zcv at h
 conv=>whnf
 refine Zl h (fun IsBlock0 hb0 h=>?_)
 conv=>whnf
 refine Ya ?_
 refine YN h (fun h=>?_) (fun h=>?_)
 conv=>whnf
 refine Zl h (fun code0 hb1 h=>?_)
 conv=>whnf
 cases h
 exact hK
 conv=>whnf
 cases h
 exact hK
theorem ZFE (q0:Zc Tryz.prog 189 ZAM):Zc Tryz.prog 127 Zzd:=by
 refine Zf Zq (Ze q0 Zj) mixed {} (fn:=Tryz.f127) Tryz.func127 (by kernel_rfl) (by kernel_rfl) ?_
 rintro ⟨s0,⟨⟩⟩ K ⟨r,h,hK⟩
 change Zdu s0=some r at h
 unfold Zdu at h
 conv=>whnf
 refine Zl h (fun isTime0 hb0 h=>?_)
 conv=>whnf
 refine YN h (fun h=>?_) (fun h=>?_)
 conv=>whnf
 refine Zl h (fun isTime1 hb1 h=>?_)
 conv=>whnf
 refine YN h (fun h=>?_) (fun h=>?_)
 conv=>whnf
 cases h
 exact hK
 conv=>whnf
 cases h
 exact hK
 conv=>whnf
 cases h
 exact hK
theorem ZEA (q2:Zc Tryz.prog 62 c171) (q3:Zc Tryz.prog 63 Zzb) (q1:Zc Tryz.prog 64 ZAk) (q0:Zc Tryz.prog 65 ZAH):Zc Tryz.prog 22 c210:=by
 refine Zf Zq (Ze q2 (Ze q3 (Ze q1 (Ze q0 Zj)))) mixed {draws:=[(4,[0,1,0,7,15],.op 0 (.op 2 (.alt 1 (.alt 3 (.op 4 (.done)) (.done)) (.done))))]} (fn:=Tryz.f22) Tryz.func22 (by kernel_rfl) (by kernel_rfl) ?_
 rintro ⟨b0,e0,t0,⟨⟩⟩ K ⟨r,h,hK⟩
 change Zaf b0 e0 t0=some r at h
 unfold Zaf at h
 conv=>whnf
 refine Zl h (fun EditCode0 hb0 h=>?_)
 conv=>whnf
 refine Ya ?_
 refine ZC h (fun h=>?_) (fun h=>?_)
 conv=>whnf
 refine ⟨by kernel_rfl,?_⟩
 conv=>whnf
 refine Zl h (fun newView0 hb1 h=>?_)
 conv=>whnf
 refine Zl h (fun isTiming0 hb2 h=>?_)
 conv=>whnf
 refine ⟨trivial,?_⟩
 conv=>whnf
 refine Ya ?_
 refine YN h (fun h=>?_) (fun h=>?_)
 conv=>whnf
 refine Zl h (fun timingAfter0 hb3 h=>?_)
 conv=>whnf
 cases h
 exact hK
 conv=>whnf
 cases h
 exact hK
 conv=>whnf
 cases h
 exact hK
theorem ZE0 (q0:Zc Tryz.prog 184 Zxu):Zc Tryz.prog 159 Zy4:=by
 refine Zf Zq (Ze q0 Zj) mixed {draws:=[(1,[0,1,3,0,8,31,0,64,255,0,512,2047,4095,8191],.op 0 (.op 1 (.op 3 (.op 4 (.op 6 (.op 7 (.op 9 (.op 10 (.alt 2 (.alt 5 (.alt 8 (.alt 11 (.op 12 (.alt 13 (.done) (.done))) (.done)) (.done)) (.done)) (.done))))))))))]} (fn:=Tryz.f159) Tryz.func159 (by kernel_rfl) (by kernel_rfl) ?_
 rintro ⟨w0,⟨⟩⟩ K ⟨r,h,hK⟩
 change Ju w0=some r at h
 unfold Ju at h
 conv=>whnf
 refine ⟨by kernel_rfl,?_⟩
 conv=>whnf
 refine Zl h (fun int64_0 hb0 h=>?_)
 conv=>whnf
 refine Zl h (fun int64_1 hb1 h=>?_)
 conv=>whnf
 refine Zl h (fun int64_2 hb2 h=>?_)
 conv=>whnf
 refine Zl h (fun int64_3 hb3 h=>?_)
 conv=>whnf
 refine ⟨trivial,?_⟩
 conv=>whnf
 cases h
 exact hK
theorem ZDC (q1:Zc Tryz.prog 325 ZzK) (q0:Zc Tryz.prog 326 c116):Zc Tryz.prog 324 c117:=by
 refine Zf Zq (Ze q1 (Ze q0 Zj)) mixed {} (fn:=Tryz.f324) Tryz.func324 (by kernel_rfl) (by kernel_rfl) ?_
 rintro ⟨t0,a0,⟨⟩⟩ K ⟨r,h,hK⟩
 change Qd t0 a0=some r at h
 unfold Qd at h
 conv=>whnf
 refine Zl h (fun IsTable0 hb0 h=>?_)
 conv=>whnf
 refine Zel ?_
 refine YN h (fun h=>?_) (fun h=>?_)
 conv=>whnf
 refine YN h (fun h=>?_) (fun h=>?_)
 conv=>whnf
 refine Zl h (fun int64_0 hb1 h=>?_)
 conv=>whnf
 cases h
 exact hK
 conv=>whnf
 cases h
 exact hK
 conv=>whnf
 cases h
 exact hK
theorem ZCx:Zc Tryz.prog 131 c208:=by
 refine Zf Zq Zj mixed {} (fn:=Tryz.f131) Tryz.func131 (by kernel_rfl) (by kernel_rfl) ?_
 rintro ⟨after0,node0,⟨⟩⟩ K ⟨r,h,hK⟩
 change Zfa after0 node0=some r at h
 unfold Zfa at h
 conv=>whnf
 refine ⟨by decide,?_⟩
 conv=>whnf
 refine vAt h (fun x0 he0a he0b he0x h=>?_)
 conv=>whnf
 refine ⟨by decide,?_⟩
 conv=>whnf
 cases h
 exact hK
theorem ZCn:Zc Tryz.prog 253 c160:=by
 refine Zf Zq Zj mixed {} (fn:=Tryz.f253) Tryz.func253 (by kernel_rfl) (by kernel_rfl) ?_
 rintro ⟨p0,q0,⟨⟩⟩ K ⟨r,h,hK⟩
 change Zbq p0 q0=some r at h
 unfold Zbq at h
 conv=>whnf
 cases h
 exact hK
theorem ZEP (q2:Zc Tryz.prog 209 Zrh) (q1:Zc Tryz.prog 254 Zjl) (q0:Zc Tryz.prog 255 ZfX):Zc Tryz.prog 223 Zx5:=by
 refine Zf Zq (Ze q2 (Ze q1 (Ze q0 Zj))) mixed {} (fn:=Tryz.f223) Tryz.func223 (by kernel_rfl) (by kernel_rfl) ?_
 rintro ⟨s0,⟨⟩⟩ K ⟨r,h,hK⟩
 change Zcb s0=some r at h
 unfold Zcb at h
 conv=>whnf
 refine Zl h (fun within0 hb0 h=>?_)
 conv=>whnf
 refine YN h (fun h=>?_) (fun h=>?_)
 conv=>whnf
 refine YU h (fun hp1 h=>?_)
 conv=>whnf
 refine ⟨by decide,?_⟩
 conv=>whnf
 refine ⟨by kernel_rfl,?_⟩
 conv=>whnf
 refine ZC h (fun h=>?_) (fun h=>?_)
 conv=>whnf
 refine vAt h (fun x0 he2a he2b he2x h=>?_)
 conv=>whnf
 cases h
 exact hK
 conv=>whnf
 cases h
 exact hK
 conv=>whnf
 cases h
 exact hK
theorem ZD4:Zc Tryz.prog 126 c183:=by
 refine Zf Zq Zj mixed {} (fn:=Tryz.f126) Tryz.func126 (by kernel_rfl) (by kernel_rfl) ?_
 rintro ⟨list0,⟨⟩⟩ K ⟨r,h,hK⟩
 change Xt list0=some r at h
 unfold Xt at h
 conv=>whnf
 cases h
 exact hK
theorem ZFq (q2:Zc Tryz.prog 124 Zzp) (q1:Zc Tryz.prog 125 c182) (q0:Zc Tryz.prog 126 c183) (q4:Zc Tryz.prog 127 Zzd) (q3:Zc Tryz.prog 128 ZzU):Zc Tryz.prog 64 ZAk:=by
 refine Zf Zq (Ze q2 (Ze q1 (Ze q0 (Ze q4 (Ze q3 Zj))))) mixed {loops:=[(0,[.reg 32 (.dat (.int .i64))])]} (fn:=Tryz.f64) Tryz.func64 (by kernel_rfl) (by kernel_rfl) ?_
 rintro ⟨a0,a1,⟨⟩⟩ K ⟨r,h,hK⟩
 change Vs a0 a1=some r at h
 unfold Vs at h
 conv=>whnf
 refine Zl h (fun nodes0 hb0 h=>?_)
 conv=>whnf
 refine Zl h (fun bool0 hb1 h=>?_)
 conv=>whnf
 refine Zel ?_
 refine ZC h (fun h=>?_) (fun h=>?_)
 conv=>whnf
 refine Zl h (fun Span0 hb2 h=>?_)
 conv=>whnf
 refine Zel ?_
 refine ZC h (fun h=>?_) (fun h=>?_)
 conv=>whnf
 refine Zl h (fun Span1 hb3 h=>?_)
 conv=>whnf
 refine Ya ?_
 refine ZC h (fun h=>?_) (fun h=>?_)
 conv=>whnf
 refine Yu h ?_
 rintro I4 μ4 ⟨v0,⟨⟩⟩ zs4 h hI4 hR4
 change Xp a1 v0=some zs4 at h
 unfold Xp at h
 conv=>whnf
 refine ZC h (fun h=>?_) (fun h=>?_)
 conv=>whnf
 refine vAt h (fun x0 he5a he5b he5x h=>?_)
 conv=>whnf
 refine vAt h (fun x1 he6a he6b he6x h=>?_)
 conv=>whnf
 refine Zl h (fun IsSpan0 hb7 h=>?_)
 conv=>whnf
 refine Zel ?_
 refine YN h (fun h=>?_) (fun h=>?_)
 conv=>whnf
 refine vAt h (fun x2 he8a he8b he8x h=>?_)
 conv=>whnf
 refine Zl h (fun areSlews0 hb9 h=>?_)
 conv=>whnf
 refine Zel ?_
 refine YN h (fun h=>?_) (fun h=>?_)
 conv=>whnf
 refine Ya ?_
 refine YN h (fun h=>?_) (fun h=>?_)
 conv=>whnf
 cases h
 exact ⟨⟨rfl,rfl⟩,hI4 _ rfl⟩
 conv=>whnf
 refine ⟨he6a,he6b,Zv he6x ?_⟩
 conv=>whnf
 refine Zel ?_
 refine YN h (fun h=>?_) (fun h=>?_)
 conv=>whnf
 refine ⟨he8a,he8b,Zv he8x ?_⟩
 conv=>whnf
 refine Ya ?_
 refine YN h (fun h=>?_) (fun h=>?_)
 conv=>whnf
 cases h
 exact ⟨⟨rfl,rfl⟩,hI4 _ rfl⟩
 conv=>whnf
 cases h
 obtain rfl:=hR4 _ rfl
 exact hK
 conv=>whnf
 cases h
 obtain rfl:=hR4 _ rfl
 exact hK
 conv=>whnf
 cases h
 obtain rfl:=hR4 _ rfl
 exact hK
 conv=>whnf
 cases h
 obtain rfl:=hR4 _ rfl
 exact hK
 conv=>whnf
 cases h
 obtain rfl:=hR4 _ rfl
 exact hK
 conv=>whnf
 cases h
 exact hK
 conv=>whnf
 cases h
 exact hK
 conv=>whnf
 cases h
 exact hK
theorem ZDT (q0:Zc Tryz.prog 124 Zzp):Zc Tryz.prog 129 c206:=by
 refine Zf Zq (Ze q0 Zj) mixed {draws:=[(2,[0,1,0,4,0,16,63,127],.op 0 (.op 2 (.op 4 (.alt 1 (.alt 3 (.alt 5 (.op 6 (.alt 7 (.done) (.done))) (.done)) (.alt 5 (.alt 3 (.op 6 (.alt 7 (.done) (.done))) (.done)) (.done))) (.alt 3 (.alt 1 (.alt 5 (.op 6 (.alt 7 (.done) (.done))) (.done)) (.alt 5 (.alt 1 (.op 6 (.alt 7 (.done) (.done))) (.done)) (.done))) (.alt 5 (.alt 1 (.alt 3 (.op 6 (.alt 7 (.done) (.done))) (.done)) (.alt 3 (.alt 1 (.op 6 (.alt 7 (.done) (.done))) (.done)) (.done))) (.done)))))))]} (fn:=Tryz.f129) Tryz.func129 (by kernel_rfl) (by kernel_rfl) ?_
 rintro ⟨v0,⟨⟩⟩ K ⟨r,h,hK⟩
 change Vg v0=some r at h
 unfold Vg at h
 focus
  conv=>whnf
  refine Zl h (fun nodes0 hb0 h=>?_)
  conv=>whnf
  refine ⟨by kernel_rfl,?_⟩
  conv=>whnf
  obtain ⟨hp1,h⟩:=guardE h
  obtain ⟨hp2,h⟩:=guardE h
  obtain ⟨hp3,h⟩:=guardE h
  obtain ⟨hp4,h⟩:=guardE h
  obtain ⟨hp5,h⟩:=guardE h
  refine ⟨?_,?_⟩
  rotate_left
  focus
   conv=>whnf
   refine ⟨?_,?_⟩
   rotate_left
   focus
    conv=>whnf
    refine ⟨hp1,?_⟩
    conv=>whnf
    refine ⟨hp2,?_⟩
    conv=>whnf
    refine ⟨hp3,?_⟩
    conv=>whnf
    refine ⟨hp5,?_⟩
    conv=>whnf
    refine ⟨?_,?_⟩
    rotate_left
    focus
     conv=>whnf
     refine ⟨hp1,?_⟩
     conv=>whnf
     refine ⟨hp2,?_⟩
     conv=>whnf
     refine ⟨hp3,?_⟩
     conv=>whnf
     refine ⟨hp5,?_⟩
     conv=>whnf
     refine ⟨hp1,?_⟩
     conv=>whnf
     refine ⟨hp2,?_⟩
     conv=>whnf
     refine ⟨hp3,?_⟩
     conv=>whnf
     refine ⟨hp4,?_⟩
     conv=>whnf
     refine ⟨trivial,?_⟩
    rotate_right
    focus
     conv=>whnf
     refine ⟨hp1,?_⟩
     conv=>whnf
     refine ⟨hp2,?_⟩
     conv=>whnf
     refine ⟨hp3,?_⟩
     conv=>whnf
     refine ⟨hp4,?_⟩
     conv=>whnf
     refine ⟨hp1,?_⟩
     conv=>whnf
     refine ⟨hp2,?_⟩
     conv=>whnf
     refine ⟨hp3,?_⟩
     conv=>whnf
     refine ⟨hp5,?_⟩
     conv=>whnf
     refine ⟨trivial,?_⟩
   rotate_right
   focus
    conv=>whnf
    refine ⟨hp1,?_⟩
    conv=>whnf
    refine ⟨hp2,?_⟩
    conv=>whnf
    refine ⟨hp3,?_⟩
    conv=>whnf
    refine ⟨hp5,?_⟩
    conv=>whnf
    refine ⟨?_,?_⟩
    rotate_left
    focus
     conv=>whnf
     refine ⟨hp1,?_⟩
     conv=>whnf
     refine ⟨hp2,?_⟩
     conv=>whnf
     refine ⟨hp3,?_⟩
     conv=>whnf
     refine ⟨hp5,?_⟩
     conv=>whnf
     refine ⟨hp1,?_⟩
     conv=>whnf
     refine ⟨hp2,?_⟩
     conv=>whnf
     refine ⟨hp3,?_⟩
     conv=>whnf
     refine ⟨hp4,?_⟩
     conv=>whnf
     refine ⟨trivial,?_⟩
    rotate_right
    focus
     conv=>whnf
     refine ⟨hp1,?_⟩
     conv=>whnf
     refine ⟨hp2,?_⟩
     conv=>whnf
     refine ⟨hp3,?_⟩
     conv=>whnf
     refine ⟨hp4,?_⟩
     conv=>whnf
     refine ⟨hp1,?_⟩
     conv=>whnf
     refine ⟨hp2,?_⟩
     conv=>whnf
     refine ⟨hp3,?_⟩
     conv=>whnf
     refine ⟨hp5,?_⟩
     conv=>whnf
     refine ⟨trivial,?_⟩
  rotate_right
  focus
   conv=>whnf
   refine ⟨hp1,?_⟩
   conv=>whnf
   refine ⟨hp2,?_⟩
   conv=>whnf
   refine ⟨hp3,?_⟩
   conv=>whnf
   refine ⟨hp4,?_⟩
   conv=>whnf
   refine ⟨?_,?_⟩
   rotate_left
   focus
    conv=>whnf
    refine ⟨hp1,?_⟩
    conv=>whnf
    refine ⟨hp2,?_⟩
    conv=>whnf
    refine ⟨hp3,?_⟩
    conv=>whnf
    refine ⟨hp5,?_⟩
    conv=>whnf
    refine ⟨hp1,?_⟩
    conv=>whnf
    refine ⟨hp2,?_⟩
    conv=>whnf
    refine ⟨hp3,?_⟩
    conv=>whnf
    refine ⟨hp5,?_⟩
    conv=>whnf
    refine ⟨trivial,?_⟩
   rotate_right
   focus
    conv=>whnf
    refine ⟨hp1,?_⟩
    conv=>whnf
    refine ⟨hp2,?_⟩
    conv=>whnf
    refine ⟨hp3,?_⟩
    conv=>whnf
    refine ⟨hp5,?_⟩
    conv=>whnf
    refine ⟨hp1,?_⟩
    conv=>whnf
    refine ⟨hp2,?_⟩
    conv=>whnf
    refine ⟨hp3,?_⟩
    conv=>whnf
    refine ⟨hp5,?_⟩
    conv=>whnf
    refine ⟨trivial,?_⟩
  all_goals
   conv=>whnf
   cases h
   exact hK
theorem ZEL:Zc Tryz.prog 209 Zrh:=by
 refine Zf Zq Zj mixed {} (fn:=Tryz.f209) Tryz.func209 (by kernel_rfl) (by kernel_rfl) ?_
 rintro ⟨x0,low0,high0,⟨⟩⟩ K ⟨r,h,hK⟩
 change Yd x0 low0 high0=some r at h
 unfold Yd at h
 conv=>whnf
 refine ZC h (fun h=>?_) (fun h=>?_)
 conv=>whnf
 cases h
 exact hK
 conv=>whnf
 cases h
 exact hK
theorem ZF0 (q0:Zc Tryz.prog 260 ZAS):Zc Tryz.prog 230 ZBj:=by
 refine Zf Zq (Ze q0 Zj) mixed {loops:=[(0,[.reg 5 (.dat (.int .i64))])],draws:=[(6,[0,0,3,7,0,0,48,112,255,511],.op 0 (.op 1 (.op 2 (.op 3 (.op 4 (.op 5 (.op 6 (.op 7 (.alt 8 (.op 9 (.done)) (.done))))))))))]} (fn:=Tryz.f230) Tryz.func230 (by kernel_rfl) (by kernel_rfl) ?_
 rintro ⟨a0,b0,⟨⟩⟩ K ⟨r,h,hK⟩
 change Zex a0 b0=some r at h
 unfold Zex at h
 conv=>whnf
 refine Ya ?_
 refine ZC h (fun h=>?_) (fun h=>?_)
 conv=>whnf
 refine Yu h ?_
 rintro I0 μ0 ⟨i0,⟨⟩⟩ zs0 h hI0 hR0
 change ZeI a0 b0 i0=some zs0 at h
 unfold ZeI at h
 conv=>whnf
 refine ZC h (fun h=>?_) (fun h=>?_)
 conv=>whnf
 refine ⟨by kernel_rfl,?_⟩
 conv=>whnf
 refine vAt h (fun x0 he1a he1b he1x h=>?_)
 conv=>whnf
 refine vAt h (fun x1 he2a he2b he2x h=>?_)
 conv=>whnf
 refine Zl h (fun eqArc0 hb3 h=>?_)
 conv=>whnf
 refine ⟨trivial,?_⟩
 conv=>whnf
 refine Ya ?_
 refine YN h (fun h=>?_) (fun h=>?_)
 conv=>whnf
 cases h
 exact ⟨⟨rfl,rfl⟩,hI0 _ rfl⟩
 conv=>whnf
 cases h
 obtain rfl:=hR0 _ rfl
 exact hK
 conv=>whnf
 cases h
 obtain rfl:=hR0 _ rfl
 exact hK
 conv=>whnf
 cases h
 exact hK
theorem ZDz (q0:Zc Tryz.prog 30 ZxT):Zc Tryz.prog 169 ZBf:=by
 refine Zf Zq (Ze q0 Zj) mixed {} (fn:=Tryz.f169) Tryz.func169 (by kernel_rfl) (by kernel_rfl) ?_
 rintro ⟨a0,b0,⟨⟩⟩ K ⟨r,h,hK⟩
 change Jz a0 b0=some r at h
 unfold Jz at h
 conv=>whnf
 refine Ya ?_
 refine ZC h (fun h=>?_) (fun h=>?_)
 conv=>whnf
 refine Ya ?_
 refine ZC h (fun h=>?_) (fun h=>?_)
 conv=>whnf
 refine Zl h (fun eqInt64S0 hb0 h=>?_)
 conv=>whnf
 refine Ya ?_
 refine YN h (fun h=>?_) (fun h=>?_)
 conv=>whnf
 cases h
 exact hK
 conv=>whnf
 cases h
 exact hK
 conv=>whnf
 cases h
 exact hK
 conv=>whnf
 cases h
 exact hK
theorem ZFU (q0:Zc Tryz.prog 310 c218):Zc Tryz.prog 289 ZAl:=by
 refine Zf Zq (Ze q0 Zj) mixed {loops:=[(0,[.reg 5 (.dat (.int .i64))])],draws:=[(6,[0,0,3,7,0,0,48,112,255,511],.op 0 (.op 1 (.op 2 (.op 3 (.op 4 (.op 5 (.op 6 (.op 7 (.alt 8 (.op 9 (.done)) (.done))))))))))]} (fn:=Tryz.f289) Tryz.func289 (by kernel_rfl) (by kernel_rfl) ?_
 rintro ⟨a0,b0,⟨⟩⟩ K ⟨r,h,hK⟩
 change Zba a0 b0=some r at h
 unfold Zba at h
 conv=>whnf
 refine Ya ?_
 refine ZC h (fun h=>?_) (fun h=>?_)
 conv=>whnf
 refine Yu h ?_
 rintro I0 μ0 ⟨i0,⟨⟩⟩ zs0 h hI0 hR0
 change Zdq a0 b0 i0=some zs0 at h
 unfold Zdq at h
 conv=>whnf
 refine ZC h (fun h=>?_) (fun h=>?_)
 conv=>whnf
 refine ⟨by kernel_rfl,?_⟩
 conv=>whnf
 refine vAt h (fun x0 he1a he1b he1x h=>?_)
 conv=>whnf
 refine vAt h (fun x1 he2a he2b he2x h=>?_)
 conv=>whnf
 refine Zl h (fun eqTable0 hb3 h=>?_)
 conv=>whnf
 refine ⟨trivial,?_⟩
 conv=>whnf
 refine Ya ?_
 refine YN h (fun h=>?_) (fun h=>?_)
 conv=>whnf
 cases h
 exact ⟨⟨rfl,rfl⟩,hI0 _ rfl⟩
 conv=>whnf
 cases h
 obtain rfl:=hR0 _ rfl
 exact hK
 conv=>whnf
 cases h
 obtain rfl:=hR0 _ rfl
 exact hK
 conv=>whnf
 cases h
 exact hK
theorem w8 (q0:Zc Tryz.prog 138 c7):Zc Tryz.prog 76 c8:=by
 refine Zf Zq (Ze q0 Zj) mixed {loops:=[(0,[.reg 1 (.dat (.int .i64)),.reg 5 (.dat (.int .i64))])]} (fn:=Tryz.f76) Tryz.func76 (by kernel_rfl) (by kernel_rfl) ?_
 rintro ⟨a0,left0,⟨⟩⟩ K ⟨r,h,hK⟩
 change Za5 a0 left0=some r at h
 unfold Za5 at h
 conv=>whnf
 refine ZC h (fun h=>?_) (fun h=>?_)
 conv=>whnf
 cases h
 exact hK
 conv=>whnf
 refine Yu h ?_
 rintro I0 μ0 ⟨left1,i0,⟨⟩⟩ zs0 h hI0 hR0
 change Zef a0 left1 i0=some zs0 at h
 unfold Zef at h
 conv=>whnf
 refine ZC h (fun h=>?_) (fun h=>?_)
 conv=>whnf
 refine vAt h (fun x0 he1a he1b he1x h=>?_)
 conv=>whnf
 refine Zl h (fun szCell0 hb2 h=>?_)
 conv=>whnf
 refine ZC h (fun h=>?_) (fun h=>?_)
 conv=>whnf
 cases h
 obtain rfl:=hR0 _ rfl
 exact hK
 conv=>whnf
 cases h
 exact ⟨⟨rfl,rfl⟩,hI0 _ rfl⟩
 conv=>whnf
 cases h
 obtain rfl:=hR0 _ rfl
 exact hK
theorem w15 (q0:Zc Tryz.prog 77 c11) (q1:Zc Tryz.prog 78 c12) (q2:Zc Tryz.prog 79 c14):Zc Tryz.prog 34 c15:=by
 refine Zf Zq (Ze q0 (Ze q1 (Ze q2 Zj))) mixed {} (fn:=Tryz.f34) Tryz.func34 (by kernel_rfl) (by kernel_rfl) ?_
 rintro ⟨a0,left0,⟨⟩⟩ K ⟨r,h,hK⟩
 change Zam a0 left0=some r at h
 unfold Zam at h
 conv=>whnf
 refine Zl h (fun szInstanceS0 hb0 h=>?_)
 conv=>whnf
 refine ZC h (fun h=>?_) (fun h=>?_)
 conv=>whnf
 cases h
 exact hK
 conv=>whnf
 refine Zl h (fun szStringS0 hb1 h=>?_)
 conv=>whnf
 refine ZC h (fun h=>?_) (fun h=>?_)
 conv=>whnf
 cases h
 exact hK
 conv=>whnf
 refine Zl h (fun szPortS0 hb2 h=>?_)
 conv=>whnf
 refine ZC h (fun h=>?_) (fun h=>?_)
 conv=>whnf
 cases h
 exact hK
 conv=>whnf
 cases h
 exact hK
theorem w28 (q0:Zc Tryz.prog 274 c27):Zc Tryz.prog 244 c28:=by
 refine Zf YO (Ze q0 Zj) mixed {} (fn:=Tryz.f244) Tryz.func244 (by kernel_rfl) (by kernel_rfl) ?_
 rintro ⟨a0,⟨⟩⟩ K ⟨r,h,hK⟩
 change ZeK a0=some r at h
 unfold ZeK at h
 conv=>whnf
 refine Zl h (fun toTableS0 hb0 h=>?_)
 conv=>whnf
 intro fp1
 conv=>whnf
 refine Zl h (fun toTableS1 hb2 h=>?_)
 conv=>whnf
 intro fp3
 conv=>whnf
 cases h
 exact hK
theorem w25:Zc Tryz.prog 117 c25:=by
 refine Zf Zq Zj mixed {loops:=[(0,[.reg 4 (.dat (.int .i64)),.ent 0 (nat_lit 2) (.flat Ztl.ety)])]} (fn:=Tryz.f117) Tryz.func117 (by kernel_rfl) (by kernel_rfl) ?_
 rintro ⟨a0,⟨⟩⟩ K ⟨r,h,hK⟩
 change Xn a0=some r at h
 unfold Xn at h
 conv=>whnf
 refine YU h (fun hp0 h=>?_)
 conv=>whnf
 refine YU h (fun hp1 h=>?_)
 conv=>whnf
 refine YU h (fun hp2 h=>?_)
 conv=>whnf
 refine YU h (fun hp3 h=>?_)
 conv=>whnf
 refine Yu h ?_
 rintro I4 μ4 ⟨i0,l0,⟨⟩⟩ zs4 h hI4 hR4
 change Zdf a0 i0 l0=some zs4 at h
 unfold Zdf at h
 conv=>whnf
 refine ZC h (fun h=>?_) (fun h=>?_)
 conv=>whnf
 refine vAt h (fun x0 he5a he5b he5x h=>?_)
 conv=>whnf
 refine vAt h (fun x1 he6a he6b he6x h=>?_)
 conv=>whnf
 refine ⟨by kernel_rfl,?_⟩
 conv=>whnf
 refine ⟨by decide,?_⟩
 conv=>whnf
 refine ⟨he6a,he6b,Zv he6x ?_⟩
 conv=>whnf
 cases h
 exact ⟨⟨rfl,rfl⟩,hI4 _ rfl⟩
 conv=>whnf
 cases h
 obtain rfl:=hR4 _ rfl
 exact hK
theorem w23:Zc Tryz.prog 243 c23:=by
 refine Zf Zq Zj mixed {} (fn:=Tryz.f243) Tryz.func243 (by kernel_rfl) (by kernel_rfl) ?_
 rintro ⟨a0,⟨⟩⟩ K ⟨r,h,hK⟩
 change ZeS a0=some r at h
 unfold ZeS at h
 conv=>whnf
 cases h
 exact hK
theorem w45 (q0:Zc Tryz.prog 118 c44):Zc Tryz.prog 61 c45:=by
 refine Zf Zq (Ze q0 Zj) mixed {loops:=[(0,[.reg 4 (.dat (.int .i64)),.ent 0 (nat_lit 158) (.flat Zyu.ety)])]} (fn:=Tryz.f61) Tryz.func61 (by kernel_rfl) (by kernel_rfl) ?_
 rintro ⟨a0,⟨⟩⟩ K ⟨r,h,hK⟩
 change Zb9 a0=some r at h
 unfold Zb9 at h
 conv=>whnf
 refine YU h (fun hp0 h=>?_)
 conv=>whnf
 refine YU h (fun hp1 h=>?_)
 conv=>whnf
 refine YU h (fun hp2 h=>?_)
 conv=>whnf
 refine YU h (fun hp3 h=>?_)
 conv=>whnf
 refine Yu h ?_
 rintro I4 μ4 ⟨i0,l0,⟨⟩⟩ zs4 h hI4 hR4
 change Zd6 a0 i0 l0=some zs4 at h
 unfold Zd6 at h
 conv=>whnf
 refine ZC h (fun h=>?_) (fun h=>?_)
 conv=>whnf
 refine vAt h (fun x0 he5a he5b he5x h=>?_)
 conv=>whnf
 refine Zl h (fun toSpan0 hb6 h=>?_)
 conv=>whnf
 refine vAt h (fun x1 he7a he7b he7x h=>?_)
 conv=>whnf
 refine ⟨by kernel_rfl,?_⟩
 conv=>whnf
 refine ⟨by decide,?_⟩
 conv=>whnf
 refine ⟨he7a,he7b,Zv he7x ?_⟩
 conv=>whnf
 cases h
 exact ⟨⟨rfl,rfl⟩,hI4 _ rfl⟩
 conv=>whnf
 cases h
 obtain rfl:=hR4 _ rfl
 exact hK
theorem ZD6:Zc Tryz.prog 215 c193:=by
 refine Zf Zq Zj mixed {} (fn:=Tryz.f215) Tryz.func215 (by kernel_rfl) (by kernel_rfl) ?_
 rintro ⟨s0,⟨⟩⟩ K ⟨r,h,hK⟩
 change Yq s0=some r at h
 unfold Yq at h
 conv=>whnf
 refine ⟨fun hd=>?_,?_⟩
 have h:=Ztw (T:=(some ([]:List Zd))) h (by simp [hd,Zp])
 conv=>whnf
 cases h
 exact hK
 conv=>whnf
 refine YU h (fun hp0 h=>?_)
 conv=>whnf
 cases h
 exact hK
theorem ZFA:Zc Tryz.prog 212 Zz7:=by
 refine Zf Zq Zj mixed {} (fn:=Tryz.f212) Tryz.func212 (by kernel_rfl) (by kernel_rfl) ?_
 rintro ⟨s0,⟨⟩⟩ K ⟨r,h,hK⟩
 change Y2 s0=some r at h
 unfold Y2 at h
 conv=>whnf
 refine ⟨fun hd=>?_,?_⟩
 have h:=Ztw (T:=(some ([]:List Yz))) h (by simp [hd,Zp])
 conv=>whnf
 cases h
 exact hK
 conv=>whnf
 refine YU h (fun hp0 h=>?_)
 conv=>whnf
 cases h
 exact hK
theorem ZFR:Zc Tryz.prog 216 c194:=by
 refine Zf Zq Zj mixed {} (fn:=Tryz.f216) Tryz.func216 (by kernel_rfl) (by kernel_rfl) ?_
 rintro ⟨s0,⟨⟩⟩ K ⟨r,h,hK⟩
 change Xr s0=some r at h
 unfold Xr at h
 conv=>whnf
 refine ⟨fun hd=>?_,?_⟩
 have h:=Ztw (T:=(some ([]:List (List UInt8)))) h (by simp [hd,Zp])
 conv=>whnf
 cases h
 exact hK
 conv=>whnf
 refine YU h (fun hp0 h=>?_)
 conv=>whnf
 cases h
 exact hK
theorem ZEz (q0:Zc Tryz.prog 317 ZzF):Zc Tryz.prog 301 Zz4:=by
 refine Zf Zq (Ze q0 Zj) mixed {} (fn:=Tryz.f301) Tryz.func301 (by kernel_rfl) (by kernel_rfl) ?_
 rintro ⟨s0,f0,⟨⟩⟩ K ⟨r,h,hK⟩
 change ZE s0 f0=some r at h
 unfold ZE at h
 conv=>whnf
 refine Zl h (fun c1_0 hb0 h=>?_)
 conv=>whnf
 cases h
 exact hK
theorem ZD3 (q0:Zc Tryz.prog 253 c160):Zc Tryz.prog 252 ZAL:=by
 refine Zf Zq (Ze q0 Zj) mixed {loops:=[(0,[.reg 17 (.dat (.int .i64))])]} (fn:=Tryz.f252) Tryz.func252 (by kernel_rfl) (by kernel_rfl) ?_
 rintro ⟨s1_0,s2_0,eq0,⟨⟩⟩ K ⟨r,h,hK⟩
 change Zz s1_0 s2_0 eq0=some r at h
 unfold Zz at h
 conv=>whnf
 refine Ya ?_
 refine ZC h (fun h=>?_) (fun h=>?_)
 conv=>whnf
 refine Yu h ?_
 rintro I0 μ0 ⟨v0,⟨⟩⟩ zs0 h hI0 hR0
 change Zw s1_0 s2_0 v0=some zs0 at h
 unfold Zw at h
 conv=>whnf
 refine ZC h (fun h=>?_) (fun h=>?_)
 conv=>whnf
 refine vAt h (fun x0 he1a he1b he1x h=>?_)
 conv=>whnf
 refine vAt h (fun x1 he2a he2b he2x h=>?_)
 conv=>whnf
 refine Zl h (fun c1_0 hb3 h=>?_)
 conv=>whnf
 refine Ya ?_
 refine YN h (fun h=>?_) (fun h=>?_)
 conv=>whnf
 cases h
 exact ⟨⟨rfl,rfl⟩,hI0 _ rfl⟩
 conv=>whnf
 cases h
 obtain rfl:=hR0 _ rfl
 exact hK
 conv=>whnf
 cases h
 obtain rfl:=hR0 _ rfl
 exact hK
 conv=>whnf
 cases h
 exact hK
theorem ZCs:Zc Tryz.prog 326 c116:=by
 refine Zf Zq Zj mixed {loops:=[(0,[.reg 3 (.dat (.int .i64)),.reg 4 (.dat (.int .i64))])]} (fn:=Tryz.f326) Tryz.func326 (by kernel_rfl) (by kernel_rfl) ?_
 rintro ⟨x0,⟨⟩⟩ K ⟨r,h,hK⟩
 change XE x0=some r at h
 unfold XE at h
 conv=>whnf
 refine ZC h (fun h=>?_) (fun h=>?_)
 conv=>whnf
 cases h
 conv=>whnf
 refine vAt h (fun x1 he0a he0b he0x h=>?_)
 conv=>whnf
 refine Yu h ?_
 rintro I1 μ1 ⟨m0,i0,⟨⟩⟩ zs1 h hI1 hR1
 change Xc x0 m0 i0=some zs1 at h
 unfold Xc at h
 conv=>whnf
 refine ZC h (fun h=>?_) (fun h=>?_)
 conv=>whnf
 refine vAt h (fun x2 he2a he2b he2x h=>?_)
 conv=>whnf
 cases h
 exact ⟨⟨rfl,rfl⟩,hI1 _ rfl⟩
 conv=>whnf
 cases h
 obtain rfl:=hR1 _ rfl
 exact hK
theorem w48:Zc Tryz.prog 144 c48:=by
 refine Zf Zq Zj mixed {} (fn:=Tryz.f144) Tryz.func144 (by kernel_rfl) (by kernel_rfl) ?_
 rintro ⟨n0,low0,high0,⟨⟩⟩ K ⟨r,h,hK⟩
 change ZX n0 low0 high0=some r at h
 unfold ZX at h
 conv=>whnf
 refine ZC h (fun h=>?_) (fun h=>?_)
 conv=>whnf
 cases h
 exact hK
 conv=>whnf
 cases h
 exact hK
theorem w81:Zc Tryz.prog 146 c81:=by
 refine Zf Zq Zj mixed {} (fn:=Tryz.f146) Tryz.func146 (by kernel_rfl) (by kernel_rfl) ?_
 rintro ⟨list0,⟨⟩⟩ K ⟨r,h,hK⟩
 change Xg list0=some r at h
 unfold Xg at h
 conv=>whnf
 refine YU h (fun hp0 h=>?_)
 conv=>whnf
 cases h
 exact hK
theorem w55:Zc Tryz.prog 241 c55:=by
 refine Zf Zq Zj mixed {loops:=[(0,[.reg 4 (.dat (.int .i64)),.ent 1 (nat_lit 2) (.flat Ztl.ety)])]} (fn:=Tryz.f241) Tryz.func241 (by kernel_rfl) (by kernel_rfl) ?_
 rintro ⟨c0,⟨⟩⟩ K ⟨r,h,hK⟩
 change Zcx c0=some r at h
 unfold Zcx at h
 conv=>whnf
 refine ⟨by decide,?_⟩
 conv=>whnf
 refine ⟨by decide,?_⟩
 conv=>whnf
 refine ⟨by decide,?_⟩
 conv=>whnf
 refine ⟨by decide,?_⟩
 conv=>whnf
 refine Yu h ?_
 rintro I0 μ0 ⟨i0,l0,⟨⟩⟩ zs0 h hI0 hR0
 change Vf c0 i0 l0=some zs0 at h
 unfold Vf at h
 conv=>whnf
 refine ZC h (fun h=>?_) (fun h=>?_)
 conv=>whnf
 refine vAt h (fun x0 he1a he1b he1x h=>?_)
 conv=>whnf
 refine vAt h (fun x1 he2a he2b he2x h=>?_)
 conv=>whnf
 refine ⟨by kernel_rfl,?_⟩
 conv=>whnf
 refine ⟨he2a,he2b,Zv he2x ?_⟩
 conv=>whnf
 refine ⟨he2a,he2b,Zv he2x ?_⟩
 conv=>whnf
 refine ⟨by kernel_rfl,?_⟩
 conv=>whnf
 refine ⟨by decide,?_⟩
 conv=>whnf
 refine ⟨he2a,he2b,Zv he2x ?_⟩
 conv=>whnf
 cases h
 exact ⟨⟨rfl,rfl⟩,hI0 _ rfl⟩
 conv=>whnf
 cases h
 obtain rfl:=hR0 _ rfl
 exact hK
theorem w59 (q0:Zc Tryz.prog 177 c47):Zc Tryz.prog 143 c59:=by
 refine Zf Zq (Ze q0 Zj) mixed {loops:=[(0,[.reg 3 (.dat (.int .i64))]),(2,[.reg 4 (.dat (.int .i64))])],draws:=[(9,[0,0,3,7,0,0,48,112,255],.op 0 (.op 1 (.op 2 (.op 3 (.op 4 (.op 5 (.op 6 (.op 7 (.op 8 (.done))))))))))]} (fn:=Tryz.f143) Tryz.func143 (by kernel_rfl) (by kernel_rfl) ?_
 rintro ⟨list0,⟨⟩⟩ K ⟨r,h,hK⟩
 change ZaB list0=some r at h
 unfold ZaB at h
 conv=>whnf
 refine Yu h ?_
 rintro I0 μ0 ⟨i0,⟨⟩⟩ zs0 h hI0 hR0
 change Jr list0 i0=some zs0 at h
 unfold Jr at h
 conv=>whnf
 refine ZC h (fun h=>?_) (fun h=>?_)
 conv=>whnf
 refine vAt h (fun x0 he1a he1b he1x h=>?_)
 conv=>whnf
 refine Zl h (fun l03Name0 hb2 h=>?_)
 conv=>whnf
 refine Ya ?_
 refine YN h (fun h=>?_) (fun h=>?_)
 conv=>whnf
 refine Yu h ?_
 rintro I3 μ3 ⟨k0,⟨⟩⟩ zs3 h hI3 hR3
 change Jw list0 i0 x0 k0=some zs3 at h
 unfold Jw at h
 conv=>whnf
 refine ZC h (fun h=>?_) (fun h=>?_)
 conv=>whnf
 refine ⟨by kernel_rfl,?_⟩
 conv=>whnf
 refine vAt h (fun x1 he4a he4b he4x h=>?_)
 conv=>whnf
 refine ⟨he1a,he1b,Zv he1x ?_⟩
 conv=>whnf
 refine ⟨trivial,?_⟩
 conv=>whnf
 refine ZC h (fun h=>?_) (fun h=>?_)
 conv=>whnf
 cases h
 obtain rfl:=hR3 _ rfl
 obtain rfl:=hR0 _ rfl
 exact hK
 conv=>whnf
 cases h
 exact ⟨⟨rfl,rfl⟩,hI3 _ rfl⟩
 conv=>whnf
 cases h
 obtain rfl:=hR3 _ rfl
 exact ⟨⟨rfl,rfl⟩,hI0 _ rfl⟩
 conv=>whnf
 cases h
 obtain rfl:=hR0 _ rfl
 exact hK
 conv=>whnf
 cases h
 obtain rfl:=hR0 _ rfl
 exact hK
theorem w62 (q0:Zc Tryz.prog 134 c61):Zc Tryz.prog 82 c62:=by
 refine Zf Zq (Ze q0 Zj) mixed {loops:=[(0,[.reg 5 (.own (.ol 2 (.flat (.int .i64)))),.reg 7 (.dat (.int .i64))])]} (fn:=Tryz.f82) Tryz.func82 (by kernel_rfl) (by kernel_rfl) ?_
 rintro ⟨d0,net0,⟨⟩⟩ K ⟨r,h,hK⟩
 change X0 d0 net0=some r at h
 unfold X0 at h
 conv=>whnf
 refine Zl h (fun l05Places0 hb0 h=>?_)
 conv=>whnf
 refine Yu h ?_
 rintro I1 μ1 ⟨out0,i0,⟨⟩⟩ zs1 h hI1 hR1
 change Jv net0 l05Places0 out0 i0=some zs1 at h
 unfold Jv at h
 conv=>whnf
 refine ZC h (fun h=>?_) (fun h=>?_)
 conv=>whnf
 refine vAt h (fun x0 he2a he2b he2x h=>?_)
 conv=>whnf
 refine ⟨by kernel_rfl,?_⟩
 conv=>whnf
 refine ⟨he2a,he2b,Zv he2x ?_⟩
 conv=>whnf
 refine ZC h (fun h=>?_) (fun h=>?_)
 conv=>whnf
 refine ⟨he2a,he2b,Zv he2x ?_⟩
 conv=>whnf
 refine ⟨by kernel_rfl,?_⟩
 conv=>whnf
 refine ⟨he2a,he2b,Zv he2x ?_⟩
 conv=>whnf
 refine Ya ?_
 refine YN h (fun h=>?_) (fun h=>?_)
 conv=>whnf
 cases h
 exact ⟨⟨rfl,rfl⟩,hI1 _ rfl⟩
 conv=>whnf
 refine YU h (fun hp3 h=>?_)
 conv=>whnf
 cases h
 exact ⟨⟨rfl,rfl⟩,hI1 _ rfl⟩
 conv=>whnf
 cases h
 exact ⟨⟨rfl,rfl⟩,hI1 _ rfl⟩
 conv=>whnf
 cases h
 obtain rfl:=hR1 _ rfl
 exact hK
theorem w91:Zc Tryz.prog 200 c91:=by
 refine Zf Zq Zj mixed {} (fn:=Tryz.f200) Tryz.func200 (by kernel_rfl) (by kernel_rfl) ?_
 rintro ⟨sinks0,load0,⟨⟩⟩ K ⟨r,h,hK⟩
 change ZaG sinks0 load0=some r at h
 unfold ZaG at h
 conv=>whnf
 refine YU h (fun hp0 h=>?_)
 conv=>whnf
 refine YU h (fun hp1 h=>?_)
 conv=>whnf
 refine YU h (fun hp2 h=>?_)
 conv=>whnf
 refine YU h (fun hp3 h=>?_)
 conv=>whnf
 cases h
 exact hK
theorem w93 (q1:Zc Tryz.prog 134 c61) (q4:Zc Tryz.prog 149 c89) (q5:Zc Tryz.prog 146 c81) (q0:Zc Tryz.prog 150 c90) (q2:Zc Tryz.prog 200 c91) (q3:Zc Tryz.prog 151 c92):Zc Tryz.prog 147 c93:=by
 refine Zf YO (Ze q1 (Ze q4 (Ze q5 (Ze q0 (Ze q2 (Ze q3 Zj)))))) mixed {draws:=[(1,[0,1,3,0,8,31,63,0,255],.op 0 (.op 1 (.op 3 (.op 4 (.alt 2 (.op 5 (.op 6 (.alt 7 (.alt 8 (.done) (.done)) (.done)))) (.alt 7 (.alt 2 (.op 5 (.op 6 (.alt 8 (.done) (.done)))) (.done)) (.done))))))),(5,[0,0,3,7,0,0,32,112,240,496,1023,2047],.op 0 (.op 1 (.op 4 (.op 5 (.op 6 (.op 7 (.op 8 (.alt 2 (.alt 3 (.alt 9 (.alt 10 (.op 11 (.done)) (.done)) (.done)) (.alt 9 (.alt 3 (.alt 10 (.op 11 (.done)) (.done)) (.done)) (.done))) (.alt 9 (.alt 2 (.alt 3 (.alt 10 (.op 11 (.done)) (.done)) (.done)) (.done)) (.done)))))))))),(14,[0,1,3,0,8,31,0,64,192,0,512,1536,4095,0,8192,24576,65535,0,262143],.op 0 (.op 1 (.op 2 (.op 3 (.op 6 (.op 7 (.op 9 (.op 13 (.op 14 (.ld 8 (.ld 10 (.ld 15 (.alt 4 (.alt 5 (.alt 11 (.alt 12 (.op 16 (.alt 17 (.alt 18 (.done) (.done)) (.done))) (.alt 17 (.alt 12 (.op 16 (.alt 18 (.done) (.done))) (.done)) (.done))) (.alt 17 (.alt 11 (.alt 12 (.op 16 (.alt 18 (.done) (.done))) (.done)) (.done)) (.done))) (.alt 11 (.alt 5 (.alt 12 (.op 16 (.alt 17 (.alt 18 (.done) (.done)) (.done))) (.alt 17 (.alt 12 (.op 16 (.alt 18 (.done) (.done))) (.done)) (.done))) (.alt 17 (.alt 5 (.alt 12 (.op 16 (.alt 18 (.done) (.done))) (.done)) (.done)) (.done))) (.alt 17 (.alt 5 (.alt 11 (.alt 12 (.op 16 (.alt 18 (.done) (.done))) (.done)) (.done)) (.alt 11 (.alt 5 (.alt 12 (.op 16 (.alt 18 (.done) (.done))) (.done)) (.done)) (.done))) (.done)))) (.alt 11 (.alt 4 (.alt 5 (.alt 12 (.op 16 (.alt 17 (.alt 18 (.done) (.done)) (.done))) (.alt 17 (.alt 12 (.op 16 (.alt 18 (.done) (.done))) (.done)) (.done))) (.alt 17 (.alt 5 (.alt 12 (.op 16 (.alt 18 (.done) (.done))) (.done)) (.done)) (.done))) (.alt 17 (.alt 4 (.alt 5 (.alt 12 (.op 16 (.alt 18 (.done) (.done))) (.done)) (.done)) (.done)) (.done))) (.alt 17 (.alt 4 (.alt 5 (.alt 11 (.alt 12 (.op 16 (.alt 18 (.done) (.done))) (.done)) (.done)) (.alt 11 (.alt 5 (.alt 12 (.op 16 (.alt 18 (.done) (.done))) (.done)) (.done)) (.done))) (.alt 11 (.alt 4 (.alt 5 (.alt 12 (.op 16 (.alt 18 (.done) (.done))) (.done)) (.done)) (.done)) (.done))) (.done)))))))))))))))),(15,[0,1,0,0,8,0,32,120,255,0,1023,2047],.op 0 (.op 3 (.op 4 (.op 9 (.ld 1 (.ld 2 (.alt 5 (.alt 6 (.alt 7 (.op 8 (.alt 10 (.alt 11 (.done) (.done)) (.done))) (.done)) (.done)) (.done))))))))]} (fn:=Tryz.f147) Tryz.func147 (by kernel_rfl) (by kernel_rfl) ?_
 rintro ⟨a0,a1,⟨⟩⟩ K ⟨r,h,hK⟩
 change ZbB a0 a1=some r at h
 unfold ZbB at h
 focus
  conv=>whnf
  intro fp0
  conv=>whnf
  intro fp1
  conv=>whnf
  intro fp2
  conv=>whnf
  refine ⟨by kernel_rfl,?_⟩
  conv=>whnf
  obtain ⟨l05Places0,hb3,h⟩:=Option.bind_eq_some_iff.1 h
  obtain ⟨x0,he4a,he4b,he4x,h⟩:=atE h
  refine ⟨?_,?_⟩
  rotate_left
  focus
   conv=>whnf
   refine ⟨_,hb3,?_⟩
   conv=>whnf
   refine ⟨he4a,he4b,Zv he4x ?_⟩
   conv=>whnf
   refine ⟨by kernel_rfl,?_⟩
   conv=>whnf
   refine ⟨he4a,he4b,Zv he4x ?_⟩
   conv=>whnf
   refine ⟨trivial,?_⟩
  rotate_right
  focus
   conv=>whnf
   refine ⟨_,hb3,?_⟩
   conv=>whnf
   refine ⟨he4a,he4b,Zv he4x ?_⟩
   conv=>whnf
   refine ⟨by kernel_rfl,?_⟩
   conv=>whnf
   refine ⟨he4a,he4b,Zv he4x ?_⟩
   conv=>whnf
   refine ⟨trivial,?_⟩
  all_goals
   focus
    conv=>whnf
    refine Zl h (fun l08Nodes0 hb5 h=>?_)
    conv=>whnf
    refine ⟨by kernel_rfl,?_⟩
    conv=>whnf
    refine vAt h (fun x1 he6a he6b he6x h=>?_)
    conv=>whnf
    refine ⟨by kernel_rfl,?_⟩
    conv=>whnf
    refine ⟨he6a,he6b,Zv he6x ?_⟩
    conv=>whnf
    obtain ⟨hp7,h⟩:=guardE h
    obtain ⟨hp8,h⟩:=guardE h
    obtain ⟨l02Ints0,hb9,h⟩:=Option.bind_eq_some_iff.1 h
    obtain ⟨hp10,h⟩:=guardE h
    refine ⟨?_,?_⟩
    rotate_left
    focus
     conv=>whnf
     refine ⟨by decide,?_⟩
     conv=>whnf
     refine ⟨hp7,?_⟩
     conv=>whnf
     refine ⟨hp8,?_⟩
     conv=>whnf
     refine ⟨_,hb9,?_⟩
     conv=>whnf
     refine ⟨hp10,?_⟩
     conv=>whnf
     refine ⟨trivial,?_⟩
    rotate_right
    focus
     conv=>whnf
     refine ⟨by decide,?_⟩
     conv=>whnf
     refine ⟨hp7,?_⟩
     conv=>whnf
     refine ⟨hp8,?_⟩
     conv=>whnf
     refine ⟨?_,?_⟩
     rotate_left
     focus
      conv=>whnf
      refine ⟨_,hb9,?_⟩
      conv=>whnf
      refine ⟨hp10,?_⟩
      conv=>whnf
      refine ⟨trivial,?_⟩
     rotate_right
     focus
      conv=>whnf
      refine ⟨_,hb9,?_⟩
      conv=>whnf
      refine ⟨hp10,?_⟩
      conv=>whnf
      refine ⟨trivial,?_⟩
    all_goals
     conv=>whnf
     refine ⟨hp7,?_⟩
     conv=>whnf
     refine ⟨hp8,?_⟩
     conv=>whnf
     refine YU h (fun hp11 h=>?_)
     conv=>whnf
     refine YU h (fun hp12 h=>?_)
     conv=>whnf
     refine Zl h (fun l08Connect0 hb13 h=>?_)
     conv=>whnf
     intro fp14
     conv=>whnf
     refine ZC h (fun h=>?_) (fun h=>?_)
     focus
      conv=>whnf
      refine vAt h (fun x2 he15a he15b he15x h=>?_)
      conv=>whnf
      refine ⟨by kernel_rfl,?_⟩
      conv=>whnf
      refine ⟨by decide,?_⟩
      conv=>whnf
      refine ⟨he15a,he15b,Zv he15x ?_⟩
      conv=>whnf
      refine ⟨by kernel_rfl,?_⟩
      conv=>whnf
      refine ⟨by kernel_rfl,?_⟩
      conv=>whnf
      refine ⟨by kernel_rfl,?_⟩
      conv=>whnf
      refine ⟨by kernel_rfl,?_⟩
      conv=>whnf
      obtain ⟨hp17,h⟩:=guardE h
      obtain ⟨hp19,h⟩:=guardE h
      refine ⟨?_,?_⟩
      rotate_left
      focus
       conv=>whnf
       refine ⟨?_,?_⟩
       rotate_left
       focus
        conv=>whnf
        refine ⟨?_,?_⟩
        rotate_left
        focus
         conv=>whnf
         intro fp29
         conv=>whnf
         refine ⟨by kernel_rfl,?_⟩
         conv=>whnf
         refine ⟨hp17,?_⟩
         conv=>whnf
         intro fp30
         conv=>whnf
         refine ⟨by kernel_rfl,?_⟩
         conv=>whnf
         refine ⟨hp19,?_⟩
         conv=>whnf
         refine ⟨trivial,?_⟩
        rotate_right
        focus
         conv=>whnf
         intro fp29
         conv=>whnf
         refine ⟨?_,?_⟩
         rotate_left
         focus
          conv=>whnf
          refine ⟨by kernel_rfl,?_⟩
          conv=>whnf
          refine ⟨hp17,?_⟩
          conv=>whnf
          intro fp30
          conv=>whnf
          refine ⟨by kernel_rfl,?_⟩
          conv=>whnf
          refine ⟨hp19,?_⟩
          conv=>whnf
          refine ⟨trivial,?_⟩
         rotate_right
         focus
          conv=>whnf
          refine ⟨by kernel_rfl,?_⟩
          conv=>whnf
          refine ⟨hp17,?_⟩
          conv=>whnf
          intro fp30
          conv=>whnf
          refine ⟨by kernel_rfl,?_⟩
          conv=>whnf
          refine ⟨hp19,?_⟩
          conv=>whnf
          refine ⟨trivial,?_⟩
       rotate_right
       focus
        conv=>whnf
        refine ⟨?_,?_⟩
        rotate_left
        focus
         conv=>whnf
         intro fp29
         conv=>whnf
         refine ⟨by kernel_rfl,?_⟩
         conv=>whnf
         refine ⟨hp17,?_⟩
         conv=>whnf
         intro fp30
         conv=>whnf
         refine ⟨by kernel_rfl,?_⟩
         conv=>whnf
         refine ⟨hp19,?_⟩
         conv=>whnf
         refine ⟨trivial,?_⟩
        rotate_right
        focus
         conv=>whnf
         intro fp29
         conv=>whnf
         refine ⟨?_,?_⟩
         rotate_left
         focus
          conv=>whnf
          refine ⟨by kernel_rfl,?_⟩
          conv=>whnf
          refine ⟨hp17,?_⟩
          conv=>whnf
          intro fp30
          conv=>whnf
          refine ⟨by kernel_rfl,?_⟩
          conv=>whnf
          refine ⟨hp19,?_⟩
          conv=>whnf
          refine ⟨trivial,?_⟩
         rotate_right
         focus
          conv=>whnf
          refine ⟨by kernel_rfl,?_⟩
          conv=>whnf
          refine ⟨hp17,?_⟩
          conv=>whnf
          intro fp30
          conv=>whnf
          refine ⟨?_,?_⟩
          rotate_left
          focus
           conv=>whnf
           refine ⟨by kernel_rfl,?_⟩
           conv=>whnf
           refine ⟨hp19,?_⟩
           conv=>whnf
           refine ⟨trivial,?_⟩
          rotate_right
          focus
           conv=>whnf
           refine ⟨by kernel_rfl,?_⟩
           conv=>whnf
           refine ⟨hp19,?_⟩
           conv=>whnf
           refine ⟨trivial,?_⟩
      rotate_right
      focus
       conv=>whnf
       intro fp29
       conv=>whnf
       refine ⟨?_,?_⟩
       rotate_left
       focus
        conv=>whnf
        refine ⟨?_,?_⟩
        rotate_left
        focus
         conv=>whnf
         refine ⟨?_,?_⟩
         rotate_left
         focus
          conv=>whnf
          refine ⟨by kernel_rfl,?_⟩
          conv=>whnf
          refine ⟨hp17,?_⟩
          conv=>whnf
          intro fp30
          conv=>whnf
          refine ⟨by kernel_rfl,?_⟩
          conv=>whnf
          refine ⟨hp19,?_⟩
          conv=>whnf
          refine ⟨trivial,?_⟩
         rotate_right
         focus
          conv=>whnf
          refine ⟨by kernel_rfl,?_⟩
          conv=>whnf
          refine ⟨hp17,?_⟩
          conv=>whnf
          intro fp30
          conv=>whnf
          refine ⟨by kernel_rfl,?_⟩
          conv=>whnf
          refine ⟨hp19,?_⟩
          conv=>whnf
          refine ⟨trivial,?_⟩
        rotate_right
        focus
         conv=>whnf
         refine ⟨?_,?_⟩
         rotate_left
         focus
          conv=>whnf
          refine ⟨by kernel_rfl,?_⟩
          conv=>whnf
          refine ⟨hp17,?_⟩
          conv=>whnf
          intro fp30
          conv=>whnf
          refine ⟨by kernel_rfl,?_⟩
          conv=>whnf
          refine ⟨hp19,?_⟩
          conv=>whnf
          refine ⟨trivial,?_⟩
         rotate_right
         focus
          conv=>whnf
          refine ⟨by kernel_rfl,?_⟩
          conv=>whnf
          refine ⟨hp17,?_⟩
          conv=>whnf
          intro fp30
          conv=>whnf
          refine ⟨?_,?_⟩
          rotate_left
          focus
           conv=>whnf
           refine ⟨by kernel_rfl,?_⟩
           conv=>whnf
           refine ⟨hp19,?_⟩
           conv=>whnf
           refine ⟨trivial,?_⟩
          rotate_right
          focus
           conv=>whnf
           refine ⟨by kernel_rfl,?_⟩
           conv=>whnf
           refine ⟨hp19,?_⟩
           conv=>whnf
           refine ⟨trivial,?_⟩
       rotate_right
       focus
        conv=>whnf
        refine ⟨by kernel_rfl,?_⟩
        conv=>whnf
        refine ⟨hp17,?_⟩
        conv=>whnf
        intro fp30
        conv=>whnf
        refine ⟨?_,?_⟩
        rotate_left
        focus
         conv=>whnf
         refine ⟨by kernel_rfl,?_⟩
         conv=>whnf
         refine ⟨hp19,?_⟩
         conv=>whnf
         refine ⟨trivial,?_⟩
        rotate_right
        focus
         conv=>whnf
         refine ⟨?_,?_⟩
         rotate_left
         focus
          conv=>whnf
          refine ⟨by kernel_rfl,?_⟩
          conv=>whnf
          refine ⟨hp19,?_⟩
          conv=>whnf
          refine ⟨trivial,?_⟩
         rotate_right
         focus
          conv=>whnf
          refine ⟨by kernel_rfl,?_⟩
          conv=>whnf
          refine ⟨hp19,?_⟩
          conv=>whnf
          refine ⟨trivial,?_⟩
      all_goals
       conv=>whnf
       refine ⟨by kernel_rfl,?_⟩
       conv=>whnf
       refine ⟨by kernel_rfl,?_⟩
       conv=>whnf
       refine ⟨by kernel_rfl,?_⟩
       conv=>whnf
       refine Zl h (fun l07Lumped0 hb20 h=>?_)
       conv=>whnf
       intro fp21
       conv=>whnf
       refine ⟨by kernel_rfl,?_⟩
       conv=>whnf
       refine YU h (fun hp22 h=>?_)
       conv=>whnf
       intro fp23
       conv=>whnf
       refine Zl h (fun l08Attach0 hb24 h=>?_)
       conv=>whnf
       intro fp25
       conv=>whnf
       intro fp26
       conv=>whnf
       intro fp27
       conv=>whnf
       refine ⟨trivial,?_⟩
       conv=>whnf
       cases h
       exact hK
     focus
      conv=>whnf
      refine vAt h (fun x2 he31a he31b he31x h=>?_)
      conv=>whnf
      refine ⟨by kernel_rfl,?_⟩
      conv=>whnf
      refine ⟨by decide,?_⟩
      conv=>whnf
      refine ⟨he31a,he31b,Zv he31x ?_⟩
      conv=>whnf
      refine ⟨by kernel_rfl,?_⟩
      conv=>whnf
      refine ⟨by kernel_rfl,?_⟩
      conv=>whnf
      refine ⟨by kernel_rfl,?_⟩
      conv=>whnf
      refine ⟨by kernel_rfl,?_⟩
      conv=>whnf
      obtain ⟨hp33,h⟩:=guardE h
      obtain ⟨hp35,h⟩:=guardE h
      refine ⟨?_,?_⟩
      rotate_left
      focus
       conv=>whnf
       refine ⟨?_,?_⟩
       rotate_left
       focus
        conv=>whnf
        refine ⟨?_,?_⟩
        rotate_left
        focus
         conv=>whnf
         intro fp45
         conv=>whnf
         refine ⟨by kernel_rfl,?_⟩
         conv=>whnf
         refine ⟨hp33,?_⟩
         conv=>whnf
         intro fp46
         conv=>whnf
         refine ⟨by kernel_rfl,?_⟩
         conv=>whnf
         refine ⟨hp35,?_⟩
         conv=>whnf
         refine ⟨trivial,?_⟩
        rotate_right
        focus
         conv=>whnf
         intro fp45
         conv=>whnf
         refine ⟨?_,?_⟩
         rotate_left
         focus
          conv=>whnf
          refine ⟨by kernel_rfl,?_⟩
          conv=>whnf
          refine ⟨hp33,?_⟩
          conv=>whnf
          intro fp46
          conv=>whnf
          refine ⟨by kernel_rfl,?_⟩
          conv=>whnf
          refine ⟨hp35,?_⟩
          conv=>whnf
          refine ⟨trivial,?_⟩
         rotate_right
         focus
          conv=>whnf
          refine ⟨by kernel_rfl,?_⟩
          conv=>whnf
          refine ⟨hp33,?_⟩
          conv=>whnf
          intro fp46
          conv=>whnf
          refine ⟨by kernel_rfl,?_⟩
          conv=>whnf
          refine ⟨hp35,?_⟩
          conv=>whnf
          refine ⟨trivial,?_⟩
       rotate_right
       focus
        conv=>whnf
        refine ⟨?_,?_⟩
        rotate_left
        focus
         conv=>whnf
         intro fp45
         conv=>whnf
         refine ⟨by kernel_rfl,?_⟩
         conv=>whnf
         refine ⟨hp33,?_⟩
         conv=>whnf
         intro fp46
         conv=>whnf
         refine ⟨by kernel_rfl,?_⟩
         conv=>whnf
         refine ⟨hp35,?_⟩
         conv=>whnf
         refine ⟨trivial,?_⟩
        rotate_right
        focus
         conv=>whnf
         intro fp45
         conv=>whnf
         refine ⟨?_,?_⟩
         rotate_left
         focus
          conv=>whnf
          refine ⟨by kernel_rfl,?_⟩
          conv=>whnf
          refine ⟨hp33,?_⟩
          conv=>whnf
          intro fp46
          conv=>whnf
          refine ⟨by kernel_rfl,?_⟩
          conv=>whnf
          refine ⟨hp35,?_⟩
          conv=>whnf
          refine ⟨trivial,?_⟩
         rotate_right
         focus
          conv=>whnf
          refine ⟨by kernel_rfl,?_⟩
          conv=>whnf
          refine ⟨hp33,?_⟩
          conv=>whnf
          intro fp46
          conv=>whnf
          refine ⟨?_,?_⟩
          rotate_left
          focus
           conv=>whnf
           refine ⟨by kernel_rfl,?_⟩
           conv=>whnf
           refine ⟨hp35,?_⟩
           conv=>whnf
           refine ⟨trivial,?_⟩
          rotate_right
          focus
           conv=>whnf
           refine ⟨by kernel_rfl,?_⟩
           conv=>whnf
           refine ⟨hp35,?_⟩
           conv=>whnf
           refine ⟨trivial,?_⟩
      rotate_right
      focus
       conv=>whnf
       intro fp45
       conv=>whnf
       refine ⟨?_,?_⟩
       rotate_left
       focus
        conv=>whnf
        refine ⟨?_,?_⟩
        rotate_left
        focus
         conv=>whnf
         refine ⟨?_,?_⟩
         rotate_left
         focus
          conv=>whnf
          refine ⟨by kernel_rfl,?_⟩
          conv=>whnf
          refine ⟨hp33,?_⟩
          conv=>whnf
          intro fp46
          conv=>whnf
          refine ⟨by kernel_rfl,?_⟩
          conv=>whnf
          refine ⟨hp35,?_⟩
          conv=>whnf
          refine ⟨trivial,?_⟩
         rotate_right
         focus
          conv=>whnf
          refine ⟨by kernel_rfl,?_⟩
          conv=>whnf
          refine ⟨hp33,?_⟩
          conv=>whnf
          intro fp46
          conv=>whnf
          refine ⟨by kernel_rfl,?_⟩
          conv=>whnf
          refine ⟨hp35,?_⟩
          conv=>whnf
          refine ⟨trivial,?_⟩
        rotate_right
        focus
         conv=>whnf
         refine ⟨?_,?_⟩
         rotate_left
         focus
          conv=>whnf
          refine ⟨by kernel_rfl,?_⟩
          conv=>whnf
          refine ⟨hp33,?_⟩
          conv=>whnf
          intro fp46
          conv=>whnf
          refine ⟨by kernel_rfl,?_⟩
          conv=>whnf
          refine ⟨hp35,?_⟩
          conv=>whnf
          refine ⟨trivial,?_⟩
         rotate_right
         focus
          conv=>whnf
          refine ⟨by kernel_rfl,?_⟩
          conv=>whnf
          refine ⟨hp33,?_⟩
          conv=>whnf
          intro fp46
          conv=>whnf
          refine ⟨?_,?_⟩
          rotate_left
          focus
           conv=>whnf
           refine ⟨by kernel_rfl,?_⟩
           conv=>whnf
           refine ⟨hp35,?_⟩
           conv=>whnf
           refine ⟨trivial,?_⟩
          rotate_right
          focus
           conv=>whnf
           refine ⟨by kernel_rfl,?_⟩
           conv=>whnf
           refine ⟨hp35,?_⟩
           conv=>whnf
           refine ⟨trivial,?_⟩
       rotate_right
       focus
        conv=>whnf
        refine ⟨by kernel_rfl,?_⟩
        conv=>whnf
        refine ⟨hp33,?_⟩
        conv=>whnf
        intro fp46
        conv=>whnf
        refine ⟨?_,?_⟩
        rotate_left
        focus
         conv=>whnf
         refine ⟨by kernel_rfl,?_⟩
         conv=>whnf
         refine ⟨hp35,?_⟩
         conv=>whnf
         refine ⟨trivial,?_⟩
        rotate_right
        focus
         conv=>whnf
         refine ⟨?_,?_⟩
         rotate_left
         focus
          conv=>whnf
          refine ⟨by kernel_rfl,?_⟩
          conv=>whnf
          refine ⟨hp35,?_⟩
          conv=>whnf
          refine ⟨trivial,?_⟩
         rotate_right
         focus
          conv=>whnf
          refine ⟨by kernel_rfl,?_⟩
          conv=>whnf
          refine ⟨hp35,?_⟩
          conv=>whnf
          refine ⟨trivial,?_⟩
      all_goals
       conv=>whnf
       refine ⟨by kernel_rfl,?_⟩
       conv=>whnf
       refine ⟨by kernel_rfl,?_⟩
       conv=>whnf
       refine ⟨by kernel_rfl,?_⟩
       conv=>whnf
       refine Zl h (fun l07Lumped0 hb36 h=>?_)
       conv=>whnf
       intro fp37
       conv=>whnf
       refine ⟨by kernel_rfl,?_⟩
       conv=>whnf
       refine YU h (fun hp38 h=>?_)
       conv=>whnf
       intro fp39
       conv=>whnf
       refine Zl h (fun l08Attach0 hb40 h=>?_)
       conv=>whnf
       intro fp41
       conv=>whnf
       intro fp42
       conv=>whnf
       intro fp43
       conv=>whnf
       refine ⟨trivial,?_⟩
       conv=>whnf
       cases h
       exact hK
theorem w79 (q1:Zc Tryz.prog 181 c77) (q0:Zc Tryz.prog 182 c78):Zc Tryz.prog 113 c79:=by
 refine Zf Zq (Ze q1 (Ze q0 Zj)) mixed {loops:=[(0,[.reg 5 (.dat (.int .i64))])]} (fn:=Tryz.f113) Tryz.func113 (by kernel_rfl) (by kernel_rfl) ?_
 rintro ⟨a0,a1,⟨⟩⟩ K ⟨r,h,hK⟩
 change Zbx a0 a1=some r at h
 unfold Zbx at h
 conv=>whnf
 refine Zel ?_
 refine ZC h (fun h=>?_) (fun h=>?_)
 conv=>whnf
 refine Zel ?_
 refine ZC h (fun h=>?_) (fun h=>?_)
 conv=>whnf
 refine Ya ?_
 refine ZC h (fun h=>?_) (fun h=>?_)
 conv=>whnf
 refine Yu h ?_
 rintro I0 μ0 ⟨v0,⟨⟩⟩ zs0 h hI0 hR0
 change QT a1 v0=some zs0 at h
 unfold QT at h
 conv=>whnf
 refine ZC h (fun h=>?_) (fun h=>?_)
 conv=>whnf
 refine vAt h (fun x0 he1a he1b he1x h=>?_)
 conv=>whnf
 refine Zl h (fun IsSpan0 hb2 h=>?_)
 conv=>whnf
 refine Zel ?_
 refine YN h (fun h=>?_) (fun h=>?_)
 conv=>whnf
 refine vAt h (fun x1 he3a he3b he3x h=>?_)
 conv=>whnf
 refine Zl h (fun l12Slews0 hb4 h=>?_)
 conv=>whnf
 refine Zel ?_
 refine YN h (fun h=>?_) (fun h=>?_)
 conv=>whnf
 refine vAt h (fun x2 he5a he5b he5x h=>?_)
 conv=>whnf
 refine Ya ?_
 refine YN h (fun h=>?_) (fun h=>?_)
 conv=>whnf
 cases h
 exact ⟨⟨rfl,rfl⟩,hI0 _ rfl⟩
 conv=>whnf
 refine ⟨he1a,he1b,Zv he1x ?_⟩
 conv=>whnf
 refine Zel ?_
 refine YN h (fun h=>?_) (fun h=>?_)
 conv=>whnf
 refine ⟨he3a,he3b,Zv he3x ?_⟩
 conv=>whnf
 refine Ya ?_
 refine YN h (fun h=>?_) (fun h=>?_)
 conv=>whnf
 cases h
 exact ⟨⟨rfl,rfl⟩,hI0 _ rfl⟩
 conv=>whnf
 cases h
 obtain rfl:=hR0 _ rfl
 exact hK
 conv=>whnf
 cases h
 obtain rfl:=hR0 _ rfl
 exact hK
 conv=>whnf
 cases h
 obtain rfl:=hR0 _ rfl
 exact hK
 conv=>whnf
 cases h
 obtain rfl:=hR0 _ rfl
 exact hK
 conv=>whnf
 cases h
 obtain rfl:=hR0 _ rfl
 exact hK
 conv=>whnf
 cases h
 exact hK
 conv=>whnf
 cases h
 exact hK
 conv=>whnf
 cases h
 exact hK
end Go.Proofs.YtfndhpjedmopdaaGreatDoor
