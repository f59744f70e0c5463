/-
  The functions keep their contracts, if what they call does. Printed by program.
-/
import Derived.Test.YtfndhpjedmopdaaGreatDoorM
import Derived.KernelRfl
namespace Go.Proofs.YtfndhpjedmopdaaGreatDoor
open Go Go.Sx
set_option maxRecDepth 100000
set_option maxHeartbeats 3200000
set_option linter.unusedVariables false
set_option linter.unusedSimpArgs false
structure Ws4:Prop where
 w202:Zc Tryz.prog 119 ZsN→Zc Tryz.prog 167 ZyL
 w205:Zc Tryz.prog 92 c198→Zc Tryz.prog 119 ZsN→Zc Tryz.prog 165 c203→Zc Tryz.prog 162 ZBt→Zc Tryz.prog 164 Zyz→Zc Tryz.prog 166 c201→Zc Tryz.prog 167 ZyL→Zc Tryz.prog 159 Zy4→Zc Tryz.prog 95 ZAF
 w136:Zc Tryz.prog 223 Zx5→Zc Tryz.prog 275 ZzS→Zc Tryz.prog 276 c130→Zc Tryz.prog 209 Zrh→Zc Tryz.prog 277 ZBw→Zc Tryz.prog 245 ZBu
 w216:Zc Tryz.prog 259 ZAw→Zc Tryz.prog 229 ZAU
 w6:Zc Tryz.prog 238 c5→Zc Tryz.prog 197 c6
 w118:Zc Tryz.prog 324 c117→Zc Tryz.prog 332 ZBe
 w80:Zc Tryz.prog 36 c64→Zc Tryz.prog 114 c76→Zc Tryz.prog 113 c79→Zc Tryz.prog 57 c80
 w85:Zc Tryz.prog 145 c84→Zc Tryz.prog 83 c85
set_option maxHeartbeats 100000000 in
theorem ws4:Ws4:=by
 refine ⟨(fun q0=>Zf YO (Ze q0 Zj) mixed {loops:=[(0,[.reg 13 (.dat (.int .i64)),.ent 4 (nat_lit 72) (Dp.pair (Dp.ol (2:Go.TypeId) (Dp.flat (Ty.int IntKind.i64))) (Dp.pair (Dp.ol (2:Go.TypeId) (Dp.flat (Ty.int IntKind.i64))) (Dp.pair (Dp.ol (2:Go.TypeId) (Dp.flat (Ty.int IntKind.i64))) (Dp.pair (Dp.ol (2:Go.TypeId) (Dp.flat (Ty.int IntKind.i64))) (Dp.flat Ty.unit)))))]),(2,[.reg 30 (.dat (.int .i64)),.ent 4 (nat_lit 72) (Dp.pair (Dp.ol (2:Go.TypeId) (Dp.flat (Ty.int IntKind.i64))) (Dp.pair (Dp.ol (2:Go.TypeId) (Dp.flat (Ty.int IntKind.i64))) (Dp.pair (Dp.ol (2:Go.TypeId) (Dp.flat (Ty.int IntKind.i64))) (Dp.pair (Dp.ol (2:Go.TypeId) (Dp.flat (Ty.int IntKind.i64))) (Dp.flat Ty.unit)))))])],draws:=[(9,[0,1,3,7,0,16,63,127],.op 0 (.op 1 (.op 2 (.op 3 (.op 4 (.op 5 (.op 6 (.op 7 (.done))))))))),(10,[0,0,2,6,14,0,0,64,0,256,960,2016,4064,8190,16383,32767,65535],.op 0 (.op 1 (.op 2 (.op 3 (.op 5 (.op 6 (.op 7 (.op 8 (.op 9 (.op 10 (.alt 4 (.alt 11 (.alt 12 (.alt 13 (.op 14 (.op 15 (.alt 16 (.done) (.done)))) (.done)) (.done)) (.done)) (.alt 11 (.alt 4 (.alt 12 (.alt 13 (.op 14 (.op 15 (.alt 16 (.done) (.done)))) (.done)) (.done)) (.alt 12 (.alt 4 (.alt 13 (.op 14 (.op 15 (.alt 16 (.done) (.done)))) (.done)) (.done)) (.done))) (.done)))))))))))))]} (fn:=Tryz.f167) Tryz.func167 (by kernel_rfl) (by kernel_rfl) ?_),
 (fun q6 q1 q4 q0 q2 q5 q3 q7=>Zf YO (Ze q6 (Ze q1 (Ze q4 (Ze q0 (Ze q2 (Ze q5 (Ze q3 (Ze q7 Zj)))))))) mixed {draws:=[(4,[0,1,3,0,8,24,0,64,248,504,1016,0,2048,8191,16383,32767],.op 0 (.op 1 (.op 2 (.op 3 (.op 4 (.op 6 (.op 7 (.op 11 (.op 12 (.alt 5 (.op 8 (.op 9 (.op 10 (.op 13 (.op 14 (.alt 15 (.done) (.done))))))) (.done))))))))))),(11,[0,1,3,0,8,31,63,0,255],.op 0 (.op 1 (.op 3 (.op 4 (.alt 2 (.op 5 (.op 6 (.alt 7 (.alt 8 (.done) (.done)) (.done)))) (.alt 7 (.alt 2 (.op 5 (.op 6 (.alt 8 (.done) (.done)))) (.done)) (.done))))))),(17,[0,1,0,4,0,16,48,127,255],.op 0 (.op 1 (.op 2 (.op 3 (.op 4 (.op 5 (.alt 6 (.op 7 (.alt 8 (.done) (.done))) (.done))))))))]} (fn:=Tryz.f95) Tryz.func95 (by kernel_rfl) (by kernel_rfl) ?_),
 (fun q3 q2 q1 q4 q0=>Zf Zq (Ze q3 (Ze q2 (Ze q1 (Ze q4 (Ze q0 Zj))))) mixed {} (fn:=Tryz.f245) Tryz.func245 (by kernel_rfl) (by kernel_rfl) ?_),
 (fun q0=>Zf Zq (Ze q0 Zj) mixed {loops:=[(0,[.reg 5 (.dat (.int .i64))])],draws:=[(6,[0,0,3,7,0,0,48,112,255,511],.op 0 (.op 1 (.op 2 (.op 3 (.op 4 (.op 5 (.op 6 (.op 7 (.alt 8 (.op 9 (.done)) (.done))))))))))]} (fn:=Tryz.f229) Tryz.func229 (by kernel_rfl) (by kernel_rfl) ?_),
 (fun q0=>Zf Zq (Ze q0 Zj) mixed {loops:=[(0,[.reg 1 (.dat (.int .i64)),.reg 5 (.dat (.int .i64))])]} (fn:=Tryz.f197) Tryz.func197 (by kernel_rfl) (by kernel_rfl) ?_),
 (fun q0=>Zf Zq (Ze q0 Zj) mixed {loops:=[(0,[.reg 8 (.dat (.int .i64))])]} (fn:=Tryz.f332) Tryz.func332 (by kernel_rfl) (by kernel_rfl) ?_),
 (fun q2 q1 q0=>Zf Zq (Ze q2 (Ze q1 (Ze q0 Zj))) mixed {draws:=[(1,[0,1,3,7,15,7,63,127,255],.op 0 (.alt 1 (.op 2 (.op 3 (.op 5 (.alt 4 (.alt 6 (.op 7 (.op 8 (.done))) (.done)) (.done))))) (.done)))]} (fn:=Tryz.f57) Tryz.func57 (by kernel_rfl) (by kernel_rfl) ?_),
 (fun q0=>Zf YO (Ze q0 Zj) mixed {loops:=[(0,[.reg 4 (.dat (.int .i64)),.cello 1003 0 (.ol 207 (Zms))])],draws:=[(5,[0,1,0,4,0,28,60,124,252,511,1023,2047],.op 0 (.op 1 (.op 2 (.op 3 (.op 4 (.op 5 (.op 6 (.alt 7 (.alt 8 (.alt 9 (.op 10 (.alt 11 (.done) (.done))) (.done)) (.done)) (.done)))))))))]} (fn:=Tryz.f83) Tryz.func83 (by kernel_rfl) (by kernel_rfl) ?_)⟩
 all_goals
  intro a
  repeat rcases a with ⟨_,a⟩
  rintro K ⟨r,h,hK⟩
  repeat'
    conv=>whnf
    first
    | with_reducible refine Ztb ?_
    | with_reducible refine Zk8 (by assumption) (by assumption) (by assumption) ?_
    | with_reducible refine Zv (by assumption) ?_
    | with_reducible refine Zk5 (by assumption) ?_
    | (with_reducible refine shD ?_);first | refine ZC h (fun h=>?_) (fun h=>?_) | refine ZiY h (fun h=>?_) (fun h=>?_)
    | (with_reducible refine ZsW ?_);first | refine Zel ?_ | refine Ya ?_
    | (with_reducible refine ZxR ?_);first | refine YN h (fun h=>?_) (fun h=>?_) | refine Ztq h (fun h=>?_) (fun h=>?_)
    | (with_reducible refine ZxY ?_);first | refine Zl h (fun x hb h=>?_) | (obtain ⟨x,hb,h⟩:=ZfA h) | (obtain ⟨hp,h⟩:=guardE h)
    | (with_reducible refine ZxV ?_);first | refine vAt h (fun x ha hb hx h=>?_) | (obtain ⟨x,ha,hb,hx,h⟩:=atE h) | (obtain ⟨x,hb,h⟩:=ZfA h) | (obtain ⟨hp,h⟩:=guardE h)
    | (with_reducible refine Zs0 ?_);first | refine Zs7 h (fun x hb h=>?_) | (obtain ⟨x,ha,hb,hx,h⟩:=atE h) | (obtain ⟨x,hb,h⟩:=ZfA h) | (obtain ⟨hp,h⟩:=guardE h)
    | with_reducible refine ZxZ ?_
    | (with_reducible refine ZoS ?_);refine ZoR h hK ?_;clear h hK;intro I μ v r h hK;(repeat rcases v with ⟨_,v⟩);(try dsimp only at h)
    | with_reducible refine ⟨by assumption,?_⟩
    | with_reducible refine orL ?_
    | with_reducible refine .inr ?_
    | (with_reducible refine Ztp ?_);first | refine ⟨?_,True.intro⟩ | refine ⟨?_,?_⟩
    | refine ⟨by kernel_rfl,?_⟩
    | refine ⟨by decide,?_⟩
    | refine YU h (fun hp h=>?_)
    | intro fp
    | exact trivial
    | with_reducible exact Ztf h
    | obtain rfl:=Option.some.inj h;repeat (first | exact hK | exact ⟨⟨rfl,rfl⟩,hK.1 _ rfl⟩ | (obtain ⟨_,e,hK⟩:=hK;obtain rfl:=e _ rfl))
    | (obtain ⟨x,ha,hb,hx,h⟩:=atE h)
    | (obtain ⟨x,hb,h⟩:=ZfA h)
    | (obtain ⟨hp,h⟩:=guardE h)
theorem ZEI:Zc Tryz.prog 302 c127:=by
 refine Zf Zq Zj mixed {} (fn:=Tryz.f302) Tryz.func302 (by kernel_rfl) (by kernel_rfl) ?_
 rintro ⟨o0,a0,⟨⟩⟩ K ⟨r,h,hK⟩
 change Xi o0 a0=some r at h
 unfold Xi at h
 conv=>whnf
 refine ZC h (fun h=>?_) (fun h=>?_)
 conv=>whnf
 refine ZC h (fun h=>?_) (fun h=>?_)
 conv=>whnf
 cases h
 exact hK
 conv=>whnf
 cases h
 exact hK
 conv=>whnf
 cases h
 exact hK
theorem ZFh (q0:Zc Tryz.prog 327 ZzJ):Zc Tryz.prog 315 Zz5:=by
 refine Zf Zq (Ze q0 Zj) mixed {} (fn:=Tryz.f315) Tryz.func315 (by kernel_rfl) (by kernel_rfl) ?_
 rintro ⟨c0,⟨⟩⟩ K ⟨r,h,hK⟩
 change ZaS c0=some r at h
 unfold ZaS at h
 conv=>whnf
 refine Zl h (fun c1_0 hb0 h=>?_)
 conv=>whnf
 cases h
 exact hK
theorem ZFI:Zc Tryz.prog 328 ZAh:=by
 refine Zf Zq Zj mixed {} (fn:=Tryz.f328) Tryz.func328 (by kernel_rfl) (by kernel_rfl) ?_
 rintro ⟨p0,⟨⟩⟩ K ⟨r,h,hK⟩
 change Zar p0=some r at h
 unfold Zar at h
 conv=>whnf
 cases h
 exact hK
theorem ZEQ (q0:Zc Tryz.prog 299 ZyW):Zc Tryz.prog 303 c124:=by
 refine Zf Zq (Ze q0 Zj) mixed {} (fn:=Tryz.f303) Tryz.func303 (by kernel_rfl) (by kernel_rfl) ?_
 rintro ⟨c0,⟨⟩⟩ K ⟨r,h,hK⟩
 change VN c0=some r at h
 unfold VN at h
 conv=>whnf
 refine Zl h (fun Pin0 hb0 h=>?_)
 conv=>whnf
 cases h
 exact hK
theorem ZFy:Zc Tryz.prog 186 ZBp:=by
 refine Zf Zq Zj mixed {draws:=[(3,[0,1,0,4,0,16,60,124,252,511,1023,2047,0,4096,16383,32767,65535,131071],.op 0 (.op 1 (.op 2 (.op 3 (.op 4 (.op 5 (.op 6 (.op 7 (.op 8 (.op 9 (.op 10 (.op 11 (.op 12 (.op 13 (.op 14 (.op 15 (.op 16 (.op 17 (.done)))))))))))))))))))]} (fn:=Tryz.f186) Tryz.func186 (by kernel_rfl) (by kernel_rfl) ?_
 rintro ⟨d0,l0,p0,⟨⟩⟩ K ⟨r,h,hK⟩
 change Ji d0 l0 p0=some r at h
 unfold Ji at h
 conv=>whnf
 refine ZC h (fun h=>?_) (fun h=>?_)
 conv=>whnf
 cases h
 exact hK
 conv=>whnf
 refine ⟨by kernel_rfl,?_⟩
 conv=>whnf
 refine vAt h (fun x0 he0a he0b he0x h=>?_)
 conv=>whnf
 refine vAt h (fun x1 he1a he1b he1x h=>?_)
 conv=>whnf
 refine vAt h (fun x2 he2a he2b he2x h=>?_)
 conv=>whnf
 refine ⟨trivial,?_⟩
 conv=>whnf
 cases h
 exact hK
theorem ZFV:Zc Tryz.prog 257 c164:=by
 refine Zf Zq Zj mixed {} (fn:=Tryz.f257) Tryz.func257 (by kernel_rfl) (by kernel_rfl) ?_
 rintro ⟨x0,a0,⟨⟩⟩ K ⟨r,h,hK⟩
 change Vo x0 a0=some r at h
 unfold Vo at h
 conv=>whnf
 cases h
 exact hK
theorem ZFa (q1:Zc Tryz.prog 155 ZzO) (q0:Zc Tryz.prog 119 ZsN) (q2:Zc Tryz.prog 156 c152):Zc Tryz.prog 91 ZBk:=by
 refine Zf Zq (Ze q1 (Ze q0 (Ze q2 Zj))) mixed {loops:=[(0,[.reg 32 (.dat (.int .i64)),.ent 1 (nat_lit 2) (.flat Ztl.ety)]),(2,[.reg 50 (.dat (.int .i64))])],draws:=[(13,[0,0,0,6,14,31,63],.op 0 (.op 1 (.op 2 (.op 3 (.op 4 (.alt 5 (.op 6 (.done)) (.done)))))))]} (fn:=Tryz.f91) Tryz.func91 (by kernel_rfl) (by kernel_rfl) ?_
 rintro ⟨b0,⟨⟩⟩ K ⟨r,h,hK⟩
 change ZdF b0=some r at h
 unfold ZdF at h
 conv=>whnf
 refine Zl h (fun IsDesign0 hb0 h=>?_)
 conv=>whnf
 refine Zel ?_
 refine YN h (fun h=>?_) (fun h=>?_)
 conv=>whnf
 refine Ya ?_
 refine ZC h (fun h=>?_) (fun h=>?_)
 conv=>whnf
 refine YU h (fun hp1 h=>?_)
 conv=>whnf
 refine YU h (fun hp2 h=>?_)
 conv=>whnf
 refine YU h (fun hp3 h=>?_)
 conv=>whnf
 refine YU h (fun hp4 h=>?_)
 conv=>whnf
 refine Zl h (fun places0 hb5 h=>?_)
 conv=>whnf
 refine Yu h ?_
 rintro I6 μ6 ⟨v0,l0,⟨⟩⟩ zs6 h hI6 hR6
 change Vv b0 places0 v0 l0=some zs6 at h
 unfold Vv at h
 conv=>whnf
 refine ZC h (fun h=>?_) (fun h=>?_)
 conv=>whnf
 refine vAt h (fun x0 he7a he7b he7x h=>?_)
 conv=>whnf
 refine ⟨by kernel_rfl,?_⟩
 conv=>whnf
 refine ⟨he7a,he7b,Zv he7x ?_⟩
 conv=>whnf
 refine Ya ?_
 refine YN h (fun h=>?_) (fun h=>?_)
 conv=>whnf
 cases h
 exact ⟨⟨rfl,rfl⟩,hI6 _ rfl⟩
 conv=>whnf
 refine vAt h (fun x1 he8a he8b he8x h=>?_)
 conv=>whnf
 refine ⟨by kernel_rfl,?_⟩
 conv=>whnf
 refine ⟨he8a,he8b,Zv he8x ?_⟩
 conv=>whnf
 refine ⟨he8a,he8b,Zv he8x ?_⟩
 conv=>whnf
 refine ⟨by kernel_rfl,?_⟩
 conv=>whnf
 refine ⟨by decide,?_⟩
 conv=>whnf
 refine ⟨he8a,he8b,Zv he8x ?_⟩
 conv=>whnf
 cases h
 exact ⟨⟨rfl,rfl⟩,hI6 _ rfl⟩
 conv=>whnf
 refine Yu h ?_
 rintro I9 μ9 ⟨v1,⟨⟩⟩ zs9 h hI9 hR9
 change Zat b0 l0 v1=some zs9 at h
 unfold Zat at h
 conv=>whnf
 refine ZC h (fun h=>?_) (fun h=>?_)
 conv=>whnf
 refine vAt h (fun x0 he10a he10b he10x h=>?_)
 conv=>whnf
 refine ⟨by kernel_rfl,?_⟩
 conv=>whnf
 refine vAt h (fun x1 he11a he11b he11x h=>?_)
 conv=>whnf
 refine ⟨by kernel_rfl,?_⟩
 conv=>whnf
 refine ⟨he11a,he11b,Zv he11x ?_⟩
 conv=>whnf
 refine Zl h (fun IsWire0 hb12 h=>?_)
 conv=>whnf
 refine ⟨trivial,?_⟩
 conv=>whnf
 refine Ya ?_
 refine YN h (fun h=>?_) (fun h=>?_)
 conv=>whnf
 cases h
 exact ⟨⟨rfl,rfl⟩,hI9 _ rfl⟩
 conv=>whnf
 cases h
 obtain rfl:=hR9 _ rfl
 obtain rfl:=hR6 _ rfl
 exact hK
 conv=>whnf
 cases h
 obtain rfl:=hR9 _ rfl
 obtain rfl:=hR6 _ rfl
 exact hK
 conv=>whnf
 cases h
 exact hK
 conv=>whnf
 cases h
 exact hK
theorem ZDo (q4:Zc Tryz.prog 203 ZAZ) (q2:Zc Tryz.prog 204 c138) (q1:Zc Tryz.prog 205 c145) (q3:Zc Tryz.prog 206 c141) (q0:Zc Tryz.prog 207 c148):Zc Tryz.prog 155 ZzO:=by
 refine Zf Zq (Ze q4 (Ze q2 (Ze q1 (Ze q3 (Ze q0 Zj))))) mixed {loops:=[(0,[.reg 25 (.dat (.int .i64)),.ent 2 (nat_lit 3) (.flat Zrq.ety)]),(2,[.reg 51 (.dat (.int .i64)),.ent 2 (nat_lit 3) (.flat Zrq.ety)])]} (fn:=Tryz.f155) Tryz.func155 (by kernel_rfl) (by kernel_rfl) ?_
 rintro ⟨a0,a1,⟨⟩⟩ K ⟨r,h,hK⟩
 change ZcG a0 a1=some r at h
 unfold ZcG at h
 conv=>whnf
 refine Zl h (fun IsLibrary0 hb0 h=>?_)
 conv=>whnf
 refine Zel ?_
 refine YN h (fun h=>?_) (fun h=>?_)
 conv=>whnf
 refine Zl h (fun hasNames0 hb1 h=>?_)
 conv=>whnf
 refine Ya ?_
 refine YN h (fun h=>?_) (fun h=>?_)
 conv=>whnf
 refine YU h (fun hp2 h=>?_)
 conv=>whnf
 refine YU h (fun hp3 h=>?_)
 conv=>whnf
 refine YU h (fun hp4 h=>?_)
 conv=>whnf
 refine YU h (fun hp5 h=>?_)
 conv=>whnf
 refine Yu h ?_
 rintro I6 μ6 ⟨v0,l0,⟨⟩⟩ zs6 h hI6 hR6
 change Vj a0 a1 v0 l0=some zs6 at h
 unfold Vj at h
 conv=>whnf
 refine ZC h (fun h=>?_) (fun h=>?_)
 conv=>whnf
 refine vAt h (fun x0 he7a he7b he7x h=>?_)
 conv=>whnf
 refine Zl h (fun isInstance0 hb8 h=>?_)
 conv=>whnf
 refine Ya ?_
 refine YN h (fun h=>?_) (fun h=>?_)
 conv=>whnf
 refine vAt h (fun x1 he9a he9b he9x h=>?_)
 conv=>whnf
 refine vAt h (fun x2 he10a he10b he10x h=>?_)
 conv=>whnf
 refine ⟨by kernel_rfl,?_⟩
 conv=>whnf
 refine ⟨he10a,he10b,Zv he10x ?_⟩
 conv=>whnf
 refine ⟨he10a,he10b,Zv he10x ?_⟩
 conv=>whnf
 refine ⟨by kernel_rfl,?_⟩
 conv=>whnf
 refine ⟨by decide,?_⟩
 conv=>whnf
 refine ⟨he10a,he10b,Zv he10x ?_⟩
 conv=>whnf
 cases h
 exact ⟨⟨rfl,rfl⟩,hI6 _ rfl⟩
 conv=>whnf
 cases h
 obtain rfl:=hR6 _ rfl
 exact hK
 conv=>whnf
 refine Yu h ?_
 rintro I11 μ11 ⟨v1,l1,⟨⟩⟩ zs11 h hI11 hR11
 change Qc a1 v1 l1=some zs11 at h
 unfold Qc at h
 conv=>whnf
 refine ZC h (fun h=>?_) (fun h=>?_)
 conv=>whnf
 refine vAt h (fun x0 he12a he12b he12x h=>?_)
 conv=>whnf
 refine Ya ?_
 refine ZC h (fun h=>?_) (fun h=>?_)
 conv=>whnf
 refine Zl h (fun isNet0 hb13 h=>?_)
 conv=>whnf
 refine Ya ?_
 refine YN h (fun h=>?_) (fun h=>?_)
 conv=>whnf
 refine ZC h (fun h=>?_) (fun h=>?_)
 conv=>whnf
 refine vAt h (fun x1 he14a he14b he14x h=>?_)
 conv=>whnf
 refine ⟨by kernel_rfl,?_⟩
 conv=>whnf
 refine ⟨he14a,he14b,Zv he14x ?_⟩
 conv=>whnf
 refine ⟨he14a,he14b,Zv he14x ?_⟩
 conv=>whnf
 refine ⟨by kernel_rfl,?_⟩
 conv=>whnf
 refine ⟨by decide,?_⟩
 conv=>whnf
 refine ⟨he14a,he14b,Zv he14x ?_⟩
 conv=>whnf
 cases h
 exact ⟨⟨rfl,rfl⟩,hI11 _ rfl⟩
 conv=>whnf
 cases h
 exact ⟨⟨rfl,rfl⟩,hI11 _ rfl⟩
 conv=>whnf
 cases h
 obtain rfl:=hR11 _ rfl
 obtain rfl:=hR6 _ rfl
 exact hK
 conv=>whnf
 refine Zel ?_
 refine ZC h (fun h=>?_) (fun h=>?_)
 conv=>whnf
 refine Zl h (fun isNet0 hb15 h=>?_)
 conv=>whnf
 refine Ya ?_
 refine YN h (fun h=>?_) (fun h=>?_)
 conv=>whnf
 refine ZC h (fun h=>?_) (fun h=>?_)
 conv=>whnf
 refine vAt h (fun x1 he16a he16b he16x h=>?_)
 conv=>whnf
 refine ⟨by kernel_rfl,?_⟩
 conv=>whnf
 refine ⟨he16a,he16b,Zv he16x ?_⟩
 conv=>whnf
 refine ⟨he16a,he16b,Zv he16x ?_⟩
 conv=>whnf
 refine ⟨by kernel_rfl,?_⟩
 conv=>whnf
 refine ⟨by decide,?_⟩
 conv=>whnf
 refine ⟨he16a,he16b,Zv he16x ?_⟩
 conv=>whnf
 cases h
 exact ⟨⟨rfl,rfl⟩,hI11 _ rfl⟩
 conv=>whnf
 cases h
 exact ⟨⟨rfl,rfl⟩,hI11 _ rfl⟩
 conv=>whnf
 cases h
 obtain rfl:=hR11 _ rfl
 obtain rfl:=hR6 _ rfl
 exact hK
 conv=>whnf
 cases h
 obtain rfl:=hR11 _ rfl
 obtain rfl:=hR6 _ rfl
 exact hK
 conv=>whnf
 refine Zl h (fun c1_0 hb17 h=>?_)
 conv=>whnf
 cases h
 obtain rfl:=hR11 _ rfl
 obtain rfl:=hR6 _ rfl
 exact hK
 conv=>whnf
 cases h
 exact hK
 conv=>whnf
 cases h
 exact hK
theorem ZFP (q0:Zc Tryz.prog 209 Zrh):Zc Tryz.prog 210 ZBo:=by
 refine Zf Zq (Ze q0 Zj) mixed {loops:=[(0,[.reg 8 (.dat (.int .i64))])]} (fn:=Tryz.f210) Tryz.func210 (by kernel_rfl) (by kernel_rfl) ?_
 rintro ⟨w0,⟨⟩⟩ K ⟨r,h,hK⟩
 change Zad w0=some r at h
 unfold Zad at h
 conv=>whnf
 refine Yu h ?_
 rintro I0 μ0 ⟨v0,⟨⟩⟩ zs0 h hI0 hR0
 change Q8 w0 v0=some zs0 at h
 unfold Q8 at h
 conv=>whnf
 refine ZC h (fun h=>?_) (fun h=>?_)
 conv=>whnf
 refine vAt h (fun x0 he1a he1b he1x h=>?_)
 conv=>whnf
 refine ZC h (fun h=>?_) (fun h=>?_)
 conv=>whnf
 refine Zel ?_
 refine ZC h (fun h=>?_) (fun h=>?_)
 conv=>whnf
 refine vAt h (fun x1 he2a he2b he2x h=>?_)
 conv=>whnf
 refine Zel ?_
 refine ZC h (fun h=>?_) (fun h=>?_)
 conv=>whnf
 refine ZC h (fun h=>?_) (fun h=>?_)
 conv=>whnf
 refine Zl h (fun within0 hb3 h=>?_)
 conv=>whnf
 refine Ya ?_
 refine YN h (fun h=>?_) (fun h=>?_)
 conv=>whnf
 cases h
 exact ⟨⟨rfl,rfl⟩,hI0 _ rfl⟩
 conv=>whnf
 cases h
 obtain rfl:=hR0 _ rfl
 exact hK
 conv=>whnf
 cases h
 exact ⟨⟨rfl,rfl⟩,hI0 _ rfl⟩
 conv=>whnf
 cases h
 obtain rfl:=hR0 _ rfl
 exact hK
 conv=>whnf
 cases h
 obtain rfl:=hR0 _ rfl
 exact hK
 conv=>whnf
 refine ZC h (fun h=>?_) (fun h=>?_)
 conv=>whnf
 refine Zl h (fun within0 hb4 h=>?_)
 conv=>whnf
 refine Ya ?_
 refine YN h (fun h=>?_) (fun h=>?_)
 conv=>whnf
 cases h
 exact ⟨⟨rfl,rfl⟩,hI0 _ rfl⟩
 conv=>whnf
 cases h
 obtain rfl:=hR0 _ rfl
 exact hK
 conv=>whnf
 cases h
 exact ⟨⟨rfl,rfl⟩,hI0 _ rfl⟩
 conv=>whnf
 cases h
 obtain rfl:=hR0 _ rfl
 exact hK
theorem ZEc (q0:Zc Tryz.prog 184 Zxu):Zc Tryz.prog 214 ZzG:=by
 refine Zf YO (Ze q0 Zj) mixed {loops:=[(0,[.reg 3 (.own (.ol 290 (Ze9))),.reg 8 (.dat (.int .i64))])],draws:=[(5,[0,0,2,6,0,16,62,0,128,510,1022,2046,4095,8191],.op 0 (.op 1 (.op 2 (.op 4 (.op 5 (.op 7 (.op 8 (.alt 3 (.alt 6 (.alt 9 (.op 10 (.alt 11 (.alt 12 (.op 13 (.done)) (.done)) (.done))) (.done)) (.done)) (.done)))))))))]} (fn:=Tryz.f214) Tryz.func214 (by kernel_rfl) (by kernel_rfl) ?_
 rintro ⟨list0,⟨⟩⟩ K ⟨r,h,hK⟩
 change VL list0=some r at h
 unfold VL at h
 conv=>whnf
 refine Yu h ?_
 rintro I0 μ0 ⟨out0,v0,⟨⟩⟩ zs0 h hI0 hR0
 change XT list0 out0 v0=some zs0 at h
 unfold XT at h
 conv=>whnf
 intro fp1
 conv=>whnf
 refine ZC h (fun h=>?_) (fun h=>?_)
 conv=>whnf
 refine vAt h (fun x0 he2a he2b he2x h=>?_)
 conv=>whnf
 refine ⟨by kernel_rfl,?_⟩
 conv=>whnf
 refine Zl h (fun int64_0 hb3 h=>?_)
 conv=>whnf
 refine Zl h (fun int64_1 hb4 h=>?_)
 conv=>whnf
 refine Zl h (fun int64_2 hb5 h=>?_)
 conv=>whnf
 intro fp6
 conv=>whnf
 refine YU h (fun hp7 h=>?_)
 conv=>whnf
 intro fp8
 conv=>whnf
 refine ⟨trivial,?_⟩
 conv=>whnf
 cases h
 exact ⟨⟨rfl,rfl⟩,hI0 _ rfl⟩
 conv=>whnf
 cases h
 obtain rfl:=hR0 _ rfl
 exact hK
theorem ZCg (q0:Zc Tryz.prog 252 ZAL):Zc Tryz.prog 221 c162:=by
 refine Zf Zq (Ze q0 Zj) mixed {} (fn:=Tryz.f221) Tryz.func221 (by kernel_rfl) (by kernel_rfl) ?_
 rintro ⟨a0,b0,⟨⟩⟩ K ⟨r,h,hK⟩
 change Zcw a0 b0=some r at h
 unfold Zcw at h
 conv=>whnf
 refine ZC h (fun h=>?_) (fun h=>?_)
 conv=>whnf
 refine Zl h (fun c1_0 hb0 h=>?_)
 conv=>whnf
 cases h
 exact hK
 conv=>whnf
 cases h
 exact hK
theorem ZD1:Zc Tryz.prog 188 Zzy:=by
 refine Zf Zq Zj mixed {} (fn:=Tryz.f188) Tryz.func188 (by kernel_rfl) (by kernel_rfl) ?_
 rintro ⟨list0,⟨⟩⟩ K ⟨r,h,hK⟩
 change YX list0=some r at h
 unfold YX at h
 conv=>whnf
 cases h
 exact hK
theorem ZCG (q3:Zc Tryz.prog 119 ZsN) (q1:Zc Tryz.prog 120 c173) (q4:Zc Tryz.prog 121 Zxi) (q2:Zc Tryz.prog 122 Zzx) (q0:Zc Tryz.prog 123 ZzE):Zc Tryz.prog 63 Zzb:=by
 refine Zf YO (Ze q3 (Ze q1 (Ze q4 (Ze q2 (Ze q0 Zj))))) mixed {loops:=[(0,[.reg 4 (.dat (.int .i64)),.reg 25 (.dat (.int .i64)),.cello 1020 6 (.ol 176 (.flat (Znf)))]),(2,[.reg 60 (.dat (.int .i64)),.ent 4 (nat_lit 2) (.flat Ztl.ety),.ent 5 (nat_lit 56) (Dp.ol (2:Go.TypeId) (Dp.flat (Ty.int IntKind.i64)))]),(4,[.reg 88 (.dat (.int .i64)),.cello 1020 7 (.ol 2 (.flat (.int .i64))),.cello 1020 8 (.ol 56 (.ol 2 (.flat (.int .i64)))),.cello 1020 6 (.ol (nat_lit 176) (.flat Znf)),.ent 5 (nat_lit 56) (Dp.ol (2:Go.TypeId) (Dp.flat (Ty.int IntKind.i64)))]),(6,[.reg 122 (.dat (.int .i64)),.cello 1020 6 (.ol (nat_lit 176) (.flat Znf))]),(8,[.reg 127 (.dat (.int .i64)),.cello 1020 6 (.ol (nat_lit 176) (.flat Znf))])],draws:=[(1,[0,0,2,6,15,31,63],.op 0 (.op 1 (.op 2 (.alt 3 (.op 4 (.alt 5 (.op 6 (.done)) (.done))) (.done))))),(6,[0,0,2,6,14,0,0,0,224,510,1023,2047,4095],.op 0 (.op 1 (.op 2 (.op 3 (.op 4 (.op 5 (.op 6 (.op 7 (.alt 8 (.alt 9 (.op 10 (.op 11 (.alt 12 (.done) (.done)))) (.done)) (.done)))))))))),(16,[0,0,2,0,0,16,56,120,0,256,1016,2047,4095],.op 0 (.op 1 (.op 3 (.op 4 (.op 5 (.op 6 (.op 7 (.op 8 (.ld 2 (.alt 9 (.alt 10 (.op 11 (.alt 12 (.done) (.done))) (.done)) (.done))))))))))),(21,[0,0,2,6,14,0,0,96,224,480,992,2046,4095,8191,16383],.op 0 (.op 1 (.op 2 (.op 3 (.op 4 (.op 5 (.op 6 (.alt 7 (.op 8 (.op 9 (.alt 10 (.alt 11 (.op 12 (.op 13 (.alt 14 (.done) (.done)))) (.done)) (.done)))) (.done))))))))),(22,[0,0,2,6,14,0,0,96,224,510,1023,2047,4095],.op 0 (.op 1 (.op 2 (.op 3 (.op 4 (.op 5 (.op 6 (.alt 7 (.alt 8 (.alt 9 (.op 10 (.op 11 (.alt 12 (.done) (.done)))) (.done)) (.done)) (.done))))))))),(29,[0,0,2,6,14,0,0,96,224,480,0,2016,0,4096,0,28672,0,131040,262112,524286,1048575,2097151,4194303],.op 0 (.op 1 (.op 2 (.op 3 (.op 4 (.op 5 (.op 6 (.op 7 (.op 8 (.op 9 (.op 10 (.op 11 (.op 12 (.op 13 (.op 14 (.op 15 (.op 16 (.op 17 (.alt 18 (.alt 19 (.op 20 (.op 21 (.alt 22 (.done) (.done)))) (.done)) (.done))))))))))))))))))))]} (fn:=Tryz.f63) Tryz.func63 (by kernel_rfl) (by kernel_rfl) ?_
 rintro ⟨a0,⟨⟩⟩ K ⟨r,h,hK⟩
 change Zb2 a0=some r at h
 unfold Zb2 at h
 conv=>whnf
 refine ⟨by kernel_rfl,?_⟩
 conv=>whnf
 refine Zl h (fun places0 hb0 h=>?_)
 conv=>whnf
 refine ⟨trivial,?_⟩
 conv=>whnf
 refine Yu h ?_
 rintro I1 μ1 ⟨v0,v1,c0,⟨⟩⟩ zs1 h hI1 hR1
 change Zap a0 places0 v0 v1 c0=some zs1 at h
 unfold Zap at h
 conv=>whnf
 refine ZC h (fun h=>?_) (fun h=>?_)
 conv=>whnf
 refine vAt h (fun x0 he2a he2b he2x h=>?_)
 conv=>whnf
 refine ⟨by kernel_rfl,?_⟩
 conv=>whnf
 refine Zl h (fun cellLinks0 hb3 h=>?_)
 conv=>whnf
 refine YU h (fun hp4 h=>?_)
 conv=>whnf
 refine ⟨trivial,?_⟩
 conv=>whnf
 refine Zl h (fun int64_0 hb5 h=>?_)
 conv=>whnf
 cases h
 exact ⟨⟨rfl,rfl⟩,hI1 _ rfl⟩
 conv=>whnf
 refine YU h (fun hp6 h=>?_)
 conv=>whnf
 refine YU h (fun hp7 h=>?_)
 conv=>whnf
 refine YU h (fun hp8 h=>?_)
 conv=>whnf
 refine YU h (fun hp9 h=>?_)
 conv=>whnf
 refine ⟨hp6,?_⟩
 conv=>whnf
 refine ⟨hp7,?_⟩
 conv=>whnf
 refine ⟨hp8,?_⟩
 conv=>whnf
 refine YU h (fun hp10 h=>?_)
 conv=>whnf
 intro fp11
 conv=>whnf
 refine Yu h ?_
 rintro I12 μ12 ⟨v2,l0,l1,⟨⟩⟩ zs12 h hI12 hR12
 change VG a0 places0 c0 v2 l0 l1=some zs12 at h
 unfold VG at h
 conv=>whnf
 intro fp13
 conv=>whnf
 refine ZC h (fun h=>?_) (fun h=>?_)
 conv=>whnf
 refine vAt h (fun x0 he14a he14b he14x h=>?_)
 conv=>whnf
 refine ⟨by kernel_rfl,?_⟩
 conv=>whnf
 refine ⟨he14a,he14b,Zv he14x ?_⟩
 conv=>whnf
 refine YN h (fun h=>?_) (fun h=>?_)
 conv=>whnf
 refine vAt h (fun x1 he15a he15b he15x h=>?_)
 conv=>whnf
 refine ⟨by kernel_rfl,?_⟩
 conv=>whnf
 refine ⟨by decide,?_⟩
 conv=>whnf
 refine ⟨he15a,he15b,Zv he15x ?_⟩
 conv=>whnf
 cases h
 exact ⟨⟨rfl,rfl⟩,hI12 _ rfl⟩
 conv=>whnf
 refine ⟨by kernel_rfl,?_⟩
 conv=>whnf
 refine vAt h (fun x1 he16a he16b he16x h=>?_)
 conv=>whnf
 refine ⟨he16a,he16b,Zv he16x ?_⟩
 conv=>whnf
 intro fp17
 conv=>whnf
 refine ⟨by kernel_rfl,?_⟩
 conv=>whnf
 refine ⟨by kernel_rfl,?_⟩
 conv=>whnf
 refine YU h (fun hp18 h=>?_)
 conv=>whnf
 refine ⟨he16a,he16b,Zv he16x ?_⟩
 conv=>whnf
 refine .inl ⟨rfl,?_⟩
 conv=>whnf
 refine ⟨trivial,?_⟩
 conv=>whnf
 cases h
 exact ⟨⟨rfl,rfl⟩,hI12 _ rfl⟩
 conv=>whnf
 refine Yu h ?_
 rintro I19 μ19 ⟨v3,c1,c2,c3,l2,⟨⟩⟩ zs19 h hI19 hR19
 change VD a0 places0 l0 v3 c1 c2 c3 l2=some zs19 at h
 unfold VD at h
 conv=>whnf
 intro fp20
 conv=>whnf
 intro fp21
 conv=>whnf
 refine ZC h (fun h=>?_) (fun h=>?_)
 conv=>whnf
 refine ⟨by kernel_rfl,?_⟩
 conv=>whnf
 refine Zl h (fun nodeLoads0 hb22 h=>?_)
 conv=>whnf
 refine vAt h (fun x0 he23a he23b he23x h=>?_)
 conv=>whnf
 refine ⟨by kernel_rfl,?_⟩
 conv=>whnf
 refine ⟨he23a,he23b,Zv he23x ?_⟩
 conv=>whnf
 refine YU h (fun hp24 h=>?_)
 conv=>whnf
 refine ⟨trivial,?_⟩
 conv=>whnf
 refine ⟨by kernel_rfl,?_⟩
 conv=>whnf
 refine Zl h (fun exactDelays0 hb25 h=>?_)
 conv=>whnf
 intro fp26
 conv=>whnf
 refine YU h (fun hp27 h=>?_)
 conv=>whnf
 intro fp28
 conv=>whnf
 refine ⟨trivial,?_⟩
 conv=>whnf
 refine vAt h (fun x1 he29a he29b he29x h=>?_)
 conv=>whnf
 refine ⟨he29a,he29b,Zv he29x ?_⟩
 conv=>whnf
 intro fp30
 conv=>whnf
 refine Yu h ?_
 rintro I31 μ31 ⟨v4,c4,⟨⟩⟩ zs31 h hI31 hR31
 change Vt l0 v3 c1 c2 l2 x0 exactDelays0 x1 v4 c4=some zs31 at h
 unfold Vt at h
 conv=>whnf
 refine ZC h (fun h=>?_) (fun h=>?_)
 conv=>whnf
 refine vAt h (fun x2 he32a he32b he32x h=>?_)
 conv=>whnf
 refine ⟨by kernel_rfl,?_⟩
 conv=>whnf
 refine ⟨he32a,he32b,Zv he32x ?_⟩
 conv=>whnf
 refine Yu h ?_
 rintro I33 μ33 ⟨v5,c5,⟨⟩⟩ zs33 h hI33 hR33
 change VF l0 v3 v4 x2 v5 c5=some zs33 at h
 unfold VF at h
 conv=>whnf
 refine ZC h (fun h=>?_) (fun h=>?_)
 conv=>whnf
 refine ⟨by kernel_rfl,?_⟩
 conv=>whnf
 refine vAt h (fun x3 he34a he34b he34x h=>?_)
 conv=>whnf
 refine ⟨by kernel_rfl,?_⟩
 conv=>whnf
 refine ⟨he34a,he34b,Zv he34x ?_⟩
 conv=>whnf
 refine YU h (fun hp35 h=>?_)
 conv=>whnf
 refine ⟨trivial,?_⟩
 conv=>whnf
 cases h
 exact ⟨⟨rfl,rfl⟩,hI33 _ rfl⟩
 conv=>whnf
 cases h
 obtain rfl:=hR33 _ rfl
 exact ⟨⟨rfl,rfl⟩,hI31 _ rfl⟩
 conv=>whnf
 cases h
 obtain rfl:=hR31 _ rfl
 exact ⟨⟨rfl,rfl⟩,hI19 _ rfl⟩
 conv=>whnf
 cases h
 obtain rfl:=hR19 _ rfl
 obtain rfl:=hR12 _ rfl
 obtain rfl:=hR1 _ rfl
 exact hK
theorem ZDB (q0:Zc Tryz.prog 280 ZBv):Zc Tryz.prog 251 c156:=by
 refine Zf Zq (Ze q0 Zj) mixed {} (fn:=Tryz.f251) Tryz.func251 (by kernel_rfl) (by kernel_rfl) ?_
 rintro ⟨a0,b0,⟨⟩⟩ K ⟨r,h,hK⟩
 change ZcO a0 b0=some r at h
 unfold ZcO at h
 conv=>whnf
 refine Zl h (fun int64_0 hb0 h=>?_)
 conv=>whnf
 refine YN h (fun h=>?_) (fun h=>?_)
 conv=>whnf
 refine Zl h (fun int64_1 hb1 h=>?_)
 conv=>whnf
 refine YN h (fun h=>?_) (fun h=>?_)
 conv=>whnf
 refine Zl h (fun int64_2 hb2 h=>?_)
 conv=>whnf
 refine YN h (fun h=>?_) (fun h=>?_)
 conv=>whnf
 refine Zl h (fun int64_3 hb3 h=>?_)
 conv=>whnf
 cases h
 exact hK
 conv=>whnf
 cases h
 exact hK
 conv=>whnf
 cases h
 exact hK
 conv=>whnf
 cases h
 exact hK
theorem ZCy:Zc Tryz.prog 259 ZAw:=by
 refine Zf Zq Zj mixed {} (fn:=Tryz.f259) Tryz.func259 (by kernel_rfl) (by kernel_rfl) ?_
 rintro ⟨a0,b0,⟨⟩⟩ K ⟨r,h,hK⟩
 change ZeG a0 b0=some r at h
 unfold ZeG at h
 conv=>whnf
 refine Ya ?_
 refine ZC h (fun h=>?_) (fun h=>?_)
 conv=>whnf
 refine Ya ?_
 refine ZC h (fun h=>?_) (fun h=>?_)
 conv=>whnf
 refine Ya ?_
 refine ZC h (fun h=>?_) (fun h=>?_)
 conv=>whnf
 refine Ya ?_
 refine YN h (fun h=>?_) (fun h=>?_)
 conv=>whnf
 cases h
 exact hK
 conv=>whnf
 cases h
 exact hK
 conv=>whnf
 cases h
 exact hK
 conv=>whnf
 cases h
 exact hK
 conv=>whnf
 cases h
 exact hK
theorem ZDP (q0:Zc Tryz.prog 70 ZAg) (q1:Zc Tryz.prog 71 ZzR):Zc Tryz.prog 26 ZAt:=by
 refine Zf YO (Ze q0 (Ze q1 Zj)) mixed {} (fn:=Tryz.f26) Tryz.func26 (by kernel_rfl) (by kernel_rfl) ?_
 rintro ⟨a0,k0,⟨⟩⟩ K ⟨r,h,hK⟩
 change JR a0 k0=some r at h
 unfold JR at h
 conv=>whnf
 refine Zl h (fun markBoolS0 hb0 h=>?_)
 conv=>whnf
 refine Zl h (fun markSpanS0 hb1 h=>?_)
 conv=>whnf
 refine Zl h (fun markSpanS1 hb2 h=>?_)
 conv=>whnf
 cases h
 exact hK
theorem w19 (q0:Zc Tryz.prog 53 c16):Zc Tryz.prog 17 c19:=by
 refine Zf Zq (Ze q0 Zj) mixed {} (fn:=Tryz.f17) Tryz.func17 (by kernel_rfl) (by kernel_rfl) ?_
 rintro ⟨a0,left0,⟨⟩⟩ K ⟨r,h,hK⟩
 change Zb5 a0 left0=some r at h
 unfold Zb5 at h
 conv=>whnf
 refine ZC h (fun h=>?_) (fun h=>?_)
 conv=>whnf
 cases h
 exact hK
 conv=>whnf
 refine Zl h (fun szWire0 hb0 h=>?_)
 conv=>whnf
 refine ZC h (fun h=>?_) (fun h=>?_)
 conv=>whnf
 cases h
 exact hK
 conv=>whnf
 cases h
 exact hK
theorem w2:Zc Tryz.prog 109 c2:=by
 refine Zf Zq Zj mixed {} (fn:=Tryz.f109) Tryz.func109 (by kernel_rfl) (by kernel_rfl) ?_
 rintro ⟨a0,left0,⟨⟩⟩ K ⟨r,h,hK⟩
 change YZ a0 left0=some r at h
 unfold YZ at h
 conv=>whnf
 refine ZC h (fun h=>?_) (fun h=>?_)
 conv=>whnf
 cases h
 exact hK
 conv=>whnf
 cases h
 exact hK
theorem w4 (q0:Zc Tryz.prog 296 c3):Zc Tryz.prog 272 c4:=by
 refine Zf Zq (Ze q0 Zj) mixed {loops:=[(0,[.reg 1 (.dat (.int .i64)),.reg 5 (.dat (.int .i64))])]} (fn:=Tryz.f272) Tryz.func272 (by kernel_rfl) (by kernel_rfl) ?_
 rintro ⟨a0,left0,⟨⟩⟩ K ⟨r,h,hK⟩
 change V8 a0 left0=some r at h
 unfold V8 at h
 conv=>whnf
 refine ZC h (fun h=>?_) (fun h=>?_)
 conv=>whnf
 cases h
 exact hK
 conv=>whnf
 refine Yu h ?_
 rintro I0 μ0 ⟨left1,i0,⟨⟩⟩ zs0 h hI0 hR0
 change Zdo a0 left1 i0=some zs0 at h
 unfold Zdo at h
 conv=>whnf
 refine ZC h (fun h=>?_) (fun h=>?_)
 conv=>whnf
 refine vAt h (fun x0 he1a he1b he1x h=>?_)
 conv=>whnf
 refine Zl h (fun szTable0 hb2 h=>?_)
 conv=>whnf
 refine ZC h (fun h=>?_) (fun h=>?_)
 conv=>whnf
 cases h
 obtain rfl:=hR0 _ rfl
 exact hK
 conv=>whnf
 cases h
 exact ⟨⟨rfl,rfl⟩,hI0 _ rfl⟩
 conv=>whnf
 cases h
 obtain rfl:=hR0 _ rfl
 exact hK
theorem w22 (q0:Zc Tryz.prog 54 c20) (q1:Zc Tryz.prog 55 c21):Zc Tryz.prog 18 c22:=by
 refine Zf Zq (Ze q0 (Ze q1 Zj)) mixed {} (fn:=Tryz.f18) Tryz.func18 (by kernel_rfl) (by kernel_rfl) ?_
 rintro ⟨a0,left0,⟨⟩⟩ K ⟨r,h,hK⟩
 change Zax a0 left0=some r at h
 unfold Zax at h
 conv=>whnf
 refine Zl h (fun szBoolS0 hb0 h=>?_)
 conv=>whnf
 refine ZC h (fun h=>?_) (fun h=>?_)
 conv=>whnf
 cases h
 exact hK
 conv=>whnf
 refine Zl h (fun szSpanS0 hb1 h=>?_)
 conv=>whnf
 refine ZC h (fun h=>?_) (fun h=>?_)
 conv=>whnf
 cases h
 exact hK
 conv=>whnf
 refine Zl h (fun szSpanS1 hb2 h=>?_)
 conv=>whnf
 refine ZC h (fun h=>?_) (fun h=>?_)
 conv=>whnf
 cases h
 exact hK
 conv=>whnf
 cases h
 exact hK
theorem w16 (q0:Zc Tryz.prog 109 c2):Zc Tryz.prog 53 c16:=by
 refine Zf Zq (Ze q0 Zj) mixed {} (fn:=Tryz.f53) Tryz.func53 (by kernel_rfl) (by kernel_rfl) ?_
 rintro ⟨a0,left0,⟨⟩⟩ K ⟨r,h,hK⟩
 change JI a0 left0=some r at h
 unfold JI at h
 conv=>whnf
 refine Zl h (fun szInt64S0 hb0 h=>?_)
 conv=>whnf
 refine ZC h (fun h=>?_) (fun h=>?_)
 conv=>whnf
 cases h
 exact hK
 conv=>whnf
 refine Zl h (fun szInt64S1 hb1 h=>?_)
 conv=>whnf
 refine ZC h (fun h=>?_) (fun h=>?_)
 conv=>whnf
 cases h
 exact hK
 conv=>whnf
 refine Zl h (fun szInt64S2 hb2 h=>?_)
 conv=>whnf
 refine ZC h (fun h=>?_) (fun h=>?_)
 conv=>whnf
 cases h
 exact hK
 conv=>whnf
 refine Zl h (fun szInt64S3 hb3 h=>?_)
 conv=>whnf
 refine ZC h (fun h=>?_) (fun h=>?_)
 conv=>whnf
 cases h
 exact hK
 conv=>whnf
 cases h
 exact hK
theorem w29 (q0:Zc Tryz.prog 244 c28):Zc Tryz.prog 202 c29:=by
 refine Zf YO (Ze q0 Zj) mixed {loops:=[(0,[.reg 4 (.dat (.int .i64)),.ent 0 (nat_lit 235) ZtF])]} (fn:=Tryz.f202) Tryz.func202 (by kernel_rfl) (by kernel_rfl) ?_
 rintro ⟨a0,⟨⟩⟩ K ⟨r,h,hK⟩
 change ZeU a0=some r at h
 unfold ZeU at h
 conv=>whnf
 refine YU h (fun hp0 h=>?_)
 conv=>whnf
 refine YU h (fun hp1 h=>?_)
 conv=>whnf
 refine YU h (fun hp2 h=>?_)
 conv=>whnf
 refine YU h (fun hp3 h=>?_)
 conv=>whnf
 intro fp4
 conv=>whnf
 refine Yu h ?_
 rintro I5 μ5 ⟨i0,l0,⟨⟩⟩ zs5 h hI5 hR5
 change Zep a0 i0 l0=some zs5 at h
 unfold Zep at h
 conv=>whnf
 intro fp6
 conv=>whnf
 refine ZC h (fun h=>?_) (fun h=>?_)
 conv=>whnf
 refine vAt h (fun x0 he7a he7b he7x h=>?_)
 conv=>whnf
 refine Zl h (fun toArc0 hb8 h=>?_)
 conv=>whnf
 intro fp9
 conv=>whnf
 intro fp10
 conv=>whnf
 refine vAt h (fun x1 he11a he11b he11x h=>?_)
 conv=>whnf
 refine ⟨he11a,he11b,Zv he11x ?_⟩
 conv=>whnf
 intro fp12
 conv=>whnf
 intro fp13
 conv=>whnf
 intro fp14
 conv=>whnf
 cases h
 exact ⟨⟨rfl,rfl⟩,hI5 _ rfl⟩
 conv=>whnf
 cases h
 obtain rfl:=hR5 _ rfl
 exact hK
theorem w32 (q0:Zc Tryz.prog 87 c31):Zc Tryz.prog 39 c32:=by
 refine Zf YO (Ze q0 Zj) mixed {} (fn:=Tryz.f39) Tryz.func39 (by kernel_rfl) (by kernel_rfl) ?_
 rintro ⟨a0,⟨⟩⟩ K ⟨r,h,hK⟩
 change Zbv a0=some r at h
 unfold Zbv at h
 conv=>whnf
 refine Zl h (fun toCellS0 hb0 h=>?_)
 conv=>whnf
 intro fp1
 conv=>whnf
 cases h
 exact hK
theorem w24 (q0:Zc Tryz.prog 243 c23):Zc Tryz.prog 201 c24:=by
 refine Zf Zq (Ze q0 Zj) mixed {loops:=[(0,[.reg 4 (.dat (.int .i64)),.ent 0 (nat_lit 260) (.flat Zu8.ety)])]} (fn:=Tryz.f201) Tryz.func201 (by kernel_rfl) (by kernel_rfl) ?_
 rintro ⟨a0,⟨⟩⟩ K ⟨r,h,hK⟩
 change ZeM a0=some r at h
 unfold ZeM at h
 conv=>whnf
 refine YU h (fun hp0 h=>?_)
 conv=>whnf
 refine YU h (fun hp1 h=>?_)
 conv=>whnf
 refine YU h (fun hp2 h=>?_)
 conv=>whnf
 refine YU h (fun hp3 h=>?_)
 conv=>whnf
 refine Yu h ?_
 rintro I4 μ4 ⟨i0,l0,⟨⟩⟩ zs4 h hI4 hR4
 change ZeA a0 i0 l0=some zs4 at h
 unfold ZeA at h
 conv=>whnf
 refine ZC h (fun h=>?_) (fun h=>?_)
 conv=>whnf
 refine vAt h (fun x0 he5a he5b he5x h=>?_)
 conv=>whnf
 refine Zl h (fun toPin0 hb6 h=>?_)
 conv=>whnf
 refine vAt h (fun x1 he7a he7b he7x h=>?_)
 conv=>whnf
 refine ⟨by kernel_rfl,?_⟩
 conv=>whnf
 refine ⟨by decide,?_⟩
 conv=>whnf
 refine ⟨he7a,he7b,Zv he7x ?_⟩
 conv=>whnf
 cases h
 exact ⟨⟨rfl,rfl⟩,hI4 _ rfl⟩
 conv=>whnf
 cases h
 obtain rfl:=hR4 _ rfl
 exact hK
theorem w36:Zc Tryz.prog 154 c36:=by
 refine Zf Zq Zj mixed {} (fn:=Tryz.f154) Tryz.func154 (by kernel_rfl) (by kernel_rfl) ?_
 rintro ⟨a0,⟨⟩⟩ K ⟨r,h,hK⟩
 change Zdp a0=some r at h
 unfold Zdp at h
 conv=>whnf
 cases h
 exact hK
theorem ZEM:Zc Tryz.prog 213 ZA2:=by
 refine Zf Zq Zj mixed {} (fn:=Tryz.f213) Tryz.func213 (by kernel_rfl) (by kernel_rfl) ?_
 rintro ⟨s0,⟨⟩⟩ K ⟨r,h,hK⟩
 change Y3 s0=some r at h
 unfold Y3 at h
 conv=>whnf
 refine ⟨fun hd=>?_,?_⟩
 have h:=Ztw (T:=(some ([]:List ZJ))) h (by simp [hd,Zp])
 conv=>whnf
 cases h
 exact hK
 conv=>whnf
 refine YU h (fun hp0 h=>?_)
 conv=>whnf
 cases h
 exact hK
theorem ZFi (q0:Zc Tryz.prog 317 ZBc):Zc Tryz.prog 301 ZBq:=by
 refine Zf Zq (Ze q0 Zj) mixed {} (fn:=Tryz.f301) Tryz.func301 (by kernel_rfl) (by kernel_rfl) ?_
 rintro ⟨s0,f0,⟨⟩⟩ K ⟨r,h,hK⟩
 change ZH s0 f0=some r at h
 unfold ZH at h
 conv=>whnf
 refine Zl h (fun c1_0 hb0 h=>?_)
 conv=>whnf
 cases h
 exact hK
theorem ZFN (q0:Zc Tryz.prog 318 c131):Zc Tryz.prog 317 ZBc:=by
 refine Zf Zq (Ze q0 Zj) mixed {loops:=[(0,[.reg 8 (.dat (.int .i64))])]} (fn:=Tryz.f317) Tryz.func317 (by kernel_rfl) (by kernel_rfl) ?_
 rintro ⟨s0,f0,⟨⟩⟩ K ⟨r,h,hK⟩
 change ZP s0 f0=some r at h
 unfold ZP at h
 conv=>whnf
 refine Yu h ?_
 rintro I0 μ0 ⟨v0,⟨⟩⟩ zs0 h hI0 hR0
 change ZT s0 f0 v0=some zs0 at h
 unfold ZT at h
 conv=>whnf
 refine ZC h (fun h=>?_) (fun h=>?_)
 conv=>whnf
 refine vAt h (fun x0 he1a he1b he1x h=>?_)
 conv=>whnf
 refine Zl h (fun c1_0 hb2 h=>?_)
 conv=>whnf
 refine YN h (fun h=>?_) (fun h=>?_)
 conv=>whnf
 cases h
 obtain rfl:=hR0 _ rfl
 exact hK
 conv=>whnf
 cases h
 exact ⟨⟨rfl,rfl⟩,hI0 _ rfl⟩
 conv=>whnf
 cases h
 obtain rfl:=hR0 _ rfl
 exact hK
theorem w75 (q3:Zc Tryz.prog 36 c64) (q0:Zc Tryz.prog 110 c65) (q1:Zc Tryz.prog 111 c66) (q2:Zc Tryz.prog 112 c74):Zc Tryz.prog 56 c75:=by
 refine Zf Zq (Ze q3 (Ze q0 (Ze q1 (Ze q2 Zj)))) mixed {} (fn:=Tryz.f56) Tryz.func56 (by kernel_rfl) (by kernel_rfl) ?_
 rintro ⟨b0,e0,⟨⟩⟩ K ⟨r,h,hK⟩
 change Zai b0 e0=some r at h
 unfold Zai at h
 conv=>whnf
 refine Zl h (fun IsBlock0 hb0 h=>?_)
 conv=>whnf
 refine Ya ?_
 refine YN h (fun h=>?_) (fun h=>?_)
 conv=>whnf
 refine Zl h (fun l08Blank0 hb1 h=>?_)
 conv=>whnf
 refine Zel ?_
 refine YN h (fun h=>?_) (fun h=>?_)
 conv=>whnf
 refine Zl h (fun l08Range0 hb2 h=>?_)
 conv=>whnf
 refine Ya ?_
 refine YN h (fun h=>?_) (fun h=>?_)
 conv=>whnf
 refine Zl h (fun l08State0 hb3 h=>?_)
 conv=>whnf
 refine Ya ?_
 refine YN h (fun h=>?_) (fun h=>?_)
 conv=>whnf
 refine ZC h (fun h=>?_) (fun h=>?_)
 conv=>whnf
 refine ZiY h (fun h=>?_) (fun h=>?_)
 conv=>whnf
 cases h
 exact hK
 conv=>whnf
 refine ZC h (fun h=>?_) (fun h=>?_)
 conv=>whnf
 cases h
 exact hK
 conv=>whnf
 cases h
 exact hK
 conv=>whnf
 cases h
 exact hK
 conv=>whnf
 cases h
 exact hK
 conv=>whnf
 cases h
 exact hK
 conv=>whnf
 cases h
 exact hK
 conv=>whnf
 cases h
 exact hK
theorem w69:Zc Tryz.prog 178 c69:=by
 refine Zf Zq Zj mixed {loops:=[(0,[.reg 5 (.dat (.int .i64))])]} (fn:=Tryz.f178) Tryz.func178 (by kernel_rfl) (by kernel_rfl) ?_
 rintro ⟨d0,name0,⟨⟩⟩ K ⟨r,h,hK⟩
 change Vu d0 name0=some r at h
 unfold Vu at h
 conv=>whnf
 refine Yu h ?_
 rintro I0 μ0 ⟨i0,⟨⟩⟩ zs0 h hI0 hR0
 change Qo d0 name0 i0=some zs0 at h
 unfold Qo at h
 conv=>whnf
 refine ZC h (fun h=>?_) (fun h=>?_)
 conv=>whnf
 refine vAt h (fun x0 he1a he1b he1x h=>?_)
 conv=>whnf
 refine ZC h (fun h=>?_) (fun h=>?_)
 conv=>whnf
 cases h
 obtain rfl:=hR0 _ rfl
 exact hK
 conv=>whnf
 cases h
 exact ⟨⟨rfl,rfl⟩,hI0 _ rfl⟩
 conv=>whnf
 cases h
 obtain rfl:=hR0 _ rfl
 exact hK
theorem w54 (q1:Zc Tryz.prog 144 c48) (q0:Zc Tryz.prog 273 c53):Zc Tryz.prog 240 c54:=by
 refine Zf Zq (Ze q1 (Ze q0 Zj)) mixed {} (fn:=Tryz.f240) Tryz.func240 (by kernel_rfl) (by kernel_rfl) ?_
 rintro ⟨a0,a1,⟨⟩⟩ K ⟨r,h,hK⟩
 change ZeB a0 a1=some r at h
 unfold ZeB at h
 conv=>whnf
 refine Zl h (fun l01In0 hb0 h=>?_)
 conv=>whnf
 refine Zel ?_
 refine YN h (fun h=>?_) (fun h=>?_)
 conv=>whnf
 refine Zl h (fun l01In1 hb1 h=>?_)
 conv=>whnf
 refine Ya ?_
 refine YN h (fun h=>?_) (fun h=>?_)
 conv=>whnf
 refine vAt h (fun x0 he2a he2b he2x h=>?_)
 conv=>whnf
 refine ZC h (fun h=>?_) (fun h=>?_)
 conv=>whnf
 refine Ya ?_
 refine YN h (fun h=>?_) (fun h=>?_)
 conv=>whnf
 cases h
 exact hK
 conv=>whnf
 refine ZC h (fun h=>?_) (fun h=>?_)
 conv=>whnf
 refine Zl h (fun l01In2 hb3 h=>?_)
 conv=>whnf
 refine YN h (fun h=>?_) (fun h=>?_)
 conv=>whnf
 refine Zl h (fun l03Tables0 hb4 h=>?_)
 conv=>whnf
 refine YN h (fun h=>?_) (fun h=>?_)
 conv=>whnf
 refine Zl h (fun l03Tables1 hb5 h=>?_)
 conv=>whnf
 cases h
 exact hK
 conv=>whnf
 cases h
 exact hK
 conv=>whnf
 cases h
 exact hK
 conv=>whnf
 cases h
 exact hK
 conv=>whnf
 refine ZC h (fun h=>?_) (fun h=>?_)
 conv=>whnf
 refine ZC h (fun h=>?_) (fun h=>?_)
 conv=>whnf
 refine YN h (fun h=>?_) (fun h=>?_)
 conv=>whnf
 refine ZC h (fun h=>?_) (fun h=>?_)
 conv=>whnf
 refine ZC h (fun h=>?_) (fun h=>?_)
 conv=>whnf
 refine Zl h (fun l03Tables0 hb6 h=>?_)
 conv=>whnf
 refine YN h (fun h=>?_) (fun h=>?_)
 conv=>whnf
 refine Zl h (fun l03Tables1 hb7 h=>?_)
 conv=>whnf
 cases h
 exact hK
 conv=>whnf
 cases h
 exact hK
 conv=>whnf
 cases h
 exact hK
 conv=>whnf
 cases h
 exact hK
 conv=>whnf
 cases h
 exact hK
 conv=>whnf
 refine ZC h (fun h=>?_) (fun h=>?_)
 conv=>whnf
 refine ZC h (fun h=>?_) (fun h=>?_)
 conv=>whnf
 refine YN h (fun h=>?_) (fun h=>?_)
 conv=>whnf
 refine ZC h (fun h=>?_) (fun h=>?_)
 conv=>whnf
 refine vAt h (fun x1 he8a he8b he8x h=>?_)
 conv=>whnf
 refine Ya ?_
 refine YN h (fun h=>?_) (fun h=>?_)
 conv=>whnf
 cases h
 exact hK
 conv=>whnf
 refine ZC h (fun h=>?_) (fun h=>?_)
 conv=>whnf
 refine Zl h (fun l03Tables0 hb9 h=>?_)
 conv=>whnf
 refine YN h (fun h=>?_) (fun h=>?_)
 conv=>whnf
 cases h
 exact hK
 conv=>whnf
 cases h
 exact hK
 conv=>whnf
 cases h
 exact hK
 conv=>whnf
 cases h
 exact hK
 conv=>whnf
 cases h
 exact hK
 conv=>whnf
 cases h
 exact hK
 conv=>whnf
 refine ZC h (fun h=>?_) (fun h=>?_)
 conv=>whnf
 refine YN h (fun h=>?_) (fun h=>?_)
 conv=>whnf
 refine ZC h (fun h=>?_) (fun h=>?_)
 conv=>whnf
 refine vAt h (fun x1 he10a he10b he10x h=>?_)
 conv=>whnf
 refine Ya ?_
 refine YN h (fun h=>?_) (fun h=>?_)
 conv=>whnf
 cases h
 exact hK
 conv=>whnf
 refine ZC h (fun h=>?_) (fun h=>?_)
 conv=>whnf
 refine Zl h (fun l03Tables0 hb11 h=>?_)
 conv=>whnf
 refine YN h (fun h=>?_) (fun h=>?_)
 conv=>whnf
 cases h
 exact hK
 conv=>whnf
 cases h
 exact hK
 conv=>whnf
 cases h
 exact hK
 conv=>whnf
 cases h
 exact hK
 conv=>whnf
 cases h
 exact hK
 conv=>whnf
 cases h
 exact hK
 conv=>whnf
 refine ZC h (fun h=>?_) (fun h=>?_)
 conv=>whnf
 refine YN h (fun h=>?_) (fun h=>?_)
 conv=>whnf
 refine ZC h (fun h=>?_) (fun h=>?_)
 conv=>whnf
 refine ZC h (fun h=>?_) (fun h=>?_)
 conv=>whnf
 refine Zl h (fun l03Tables0 hb12 h=>?_)
 conv=>whnf
 refine YN h (fun h=>?_) (fun h=>?_)
 conv=>whnf
 refine Zl h (fun l03Tables1 hb13 h=>?_)
 conv=>whnf
 cases h
 exact hK
 conv=>whnf
 cases h
 exact hK
 conv=>whnf
 cases h
 exact hK
 conv=>whnf
 cases h
 exact hK
 conv=>whnf
 cases h
 exact hK
 conv=>whnf
 refine ZC h (fun h=>?_) (fun h=>?_)
 conv=>whnf
 refine ZC h (fun h=>?_) (fun h=>?_)
 conv=>whnf
 refine YN h (fun h=>?_) (fun h=>?_)
 conv=>whnf
 refine ZC h (fun h=>?_) (fun h=>?_)
 conv=>whnf
 refine vAt h (fun x1 he14a he14b he14x h=>?_)
 conv=>whnf
 refine Ya ?_
 refine YN h (fun h=>?_) (fun h=>?_)
 conv=>whnf
 cases h
 exact hK
 conv=>whnf
 refine ZC h (fun h=>?_) (fun h=>?_)
 conv=>whnf
 refine Zl h (fun l03Tables0 hb15 h=>?_)
 conv=>whnf
 refine YN h (fun h=>?_) (fun h=>?_)
 conv=>whnf
 cases h
 exact hK
 conv=>whnf
 cases h
 exact hK
 conv=>whnf
 cases h
 exact hK
 conv=>whnf
 cases h
 exact hK
 conv=>whnf
 cases h
 exact hK
 conv=>whnf
 cases h
 exact hK
 conv=>whnf
 refine ZC h (fun h=>?_) (fun h=>?_)
 conv=>whnf
 refine YN h (fun h=>?_) (fun h=>?_)
 conv=>whnf
 refine ZC h (fun h=>?_) (fun h=>?_)
 conv=>whnf
 refine vAt h (fun x1 he16a he16b he16x h=>?_)
 conv=>whnf
 refine Ya ?_
 refine YN h (fun h=>?_) (fun h=>?_)
 conv=>whnf
 cases h
 exact hK
 conv=>whnf
 refine ZC h (fun h=>?_) (fun h=>?_)
 conv=>whnf
 refine Zl h (fun l03Tables0 hb17 h=>?_)
 conv=>whnf
 refine YN h (fun h=>?_) (fun h=>?_)
 conv=>whnf
 cases h
 exact hK
 conv=>whnf
 cases h
 exact hK
 conv=>whnf
 cases h
 exact hK
 conv=>whnf
 cases h
 exact hK
 conv=>whnf
 cases h
 exact hK
 conv=>whnf
 cases h
 exact hK
 conv=>whnf
 cases h
 exact hK
 conv=>whnf
 cases h
 exact hK
theorem w47:Zc Tryz.prog 177 c47:=by
 refine Zf Zq Zj mixed {loops:=[(0,[.reg 3 (.dat (.int .i64))])]} (fn:=Tryz.f177) Tryz.func177 (by kernel_rfl) (by kernel_rfl) ?_
 rintro ⟨s0,⟨⟩⟩ K ⟨r,h,hK⟩
 change ZaA s0=some r at h
 unfold ZaA at h
 conv=>whnf
 refine Yu h ?_
 rintro I0 μ0 ⟨i0,⟨⟩⟩ zs0 h hI0 hR0
 change Zau s0 i0=some zs0 at h
 unfold Zau at h
 conv=>whnf
 refine ZC h (fun h=>?_) (fun h=>?_)
 conv=>whnf
 refine vAt h (fun x0 he1a he1b he1x h=>?_)
 conv=>whnf
 refine ZC h (fun h=>?_) (fun h=>?_)
 conv=>whnf
 refine ⟨he1a,he1b,Zv he1x ?_⟩
 conv=>whnf
 refine ⟨he1a,he1b,Zv he1x ?_⟩
 conv=>whnf
 refine ZC h (fun h=>?_) (fun h=>?_)
 conv=>whnf
 refine ⟨he1a,he1b,Zv he1x ?_⟩
 conv=>whnf
 refine Ya ?_
 refine ZC h (fun h=>?_) (fun h=>?_)
 conv=>whnf
 cases h
 exact ⟨⟨rfl,rfl⟩,hI0 _ rfl⟩
 conv=>whnf
 refine ZC h (fun h=>?_) (fun h=>?_)
 conv=>whnf
 refine Ya ?_
 refine ZC h (fun h=>?_) (fun h=>?_)
 conv=>whnf
 cases h
 exact ⟨⟨rfl,rfl⟩,hI0 _ rfl⟩
 conv=>whnf
 cases h
 obtain rfl:=hR0 _ rfl
 exact hK
 conv=>whnf
 cases h
 obtain rfl:=hR0 _ rfl
 exact hK
 conv=>whnf
 refine Ya ?_
 refine ZC h (fun h=>?_) (fun h=>?_)
 conv=>whnf
 cases h
 exact ⟨⟨rfl,rfl⟩,hI0 _ rfl⟩
 conv=>whnf
 cases h
 obtain rfl:=hR0 _ rfl
 exact hK
 conv=>whnf
 refine ⟨he1a,he1b,Zv he1x ?_⟩
 conv=>whnf
 refine ZC h (fun h=>?_) (fun h=>?_)
 conv=>whnf
 refine ⟨he1a,he1b,Zv he1x ?_⟩
 conv=>whnf
 refine ZC h (fun h=>?_) (fun h=>?_)
 conv=>whnf
 refine Ya ?_
 refine ZC h (fun h=>?_) (fun h=>?_)
 conv=>whnf
 cases h
 exact ⟨⟨rfl,rfl⟩,hI0 _ rfl⟩
 conv=>whnf
 cases h
 obtain rfl:=hR0 _ rfl
 exact hK
 conv=>whnf
 cases h
 obtain rfl:=hR0 _ rfl
 exact hK
 conv=>whnf
 cases h
 obtain rfl:=hR0 _ rfl
 exact hK
 conv=>whnf
 refine ZC h (fun h=>?_) (fun h=>?_)
 conv=>whnf
 cases h
 obtain rfl:=hR0 _ rfl
 exact hK
 conv=>whnf
 cases h
 obtain rfl:=hR0 _ rfl
 exact hK
theorem w84 (q1:Zc Tryz.prog 146 c81) (q0:Zc Tryz.prog 199 c83):Zc Tryz.prog 145 c84:=by
 refine Zf YO (Ze q1 (Ze q0 Zj)) mixed {loops:=[(0,[.reg 4 (.dat (.int .i64)),.cello 1003 3 (.ol 235 (ZtF))])],draws:=[(1,[0,1,0,4,0,0,32,112,0,256,1008,0,2048,0,8192,32767,0,131071],.op 0 (.op 2 (.op 5 (.op 6 (.op 8 (.op 11 (.op 13 (.ld 1 (.ld 3 (.ld 9 (.ld 12 (.ld 14 (.alt 4 (.alt 7 (.alt 10 (.op 15 (.alt 16 (.alt 17 (.done) (.done)) (.done))) (.alt 16 (.alt 10 (.op 15 (.alt 17 (.done) (.done))) (.done)) (.done))) (.alt 16 (.alt 7 (.alt 10 (.op 15 (.alt 17 (.done) (.done))) (.done)) (.done)) (.done))) (.alt 16 (.alt 4 (.alt 7 (.alt 10 (.op 15 (.alt 17 (.done) (.done))) (.done)) (.done)) (.done)) (.done)))))))))))))))]} (fn:=Tryz.f145) Tryz.func145 (by kernel_rfl) (by kernel_rfl) ?_
 rintro ⟨c0,⟨⟩⟩ K ⟨r,h,hK⟩
 change ZeP c0=some r at h
 unfold ZeP at h
 focus
  conv=>whnf
  refine ⟨by kernel_rfl,?_⟩
  conv=>whnf
  refine ⟨by kernel_rfl,?_⟩
  conv=>whnf
  refine ⟨by kernel_rfl,?_⟩
  conv=>whnf
  refine ⟨by kernel_rfl,?_⟩
  conv=>whnf
  refine ⟨by kernel_rfl,?_⟩
  conv=>whnf
  refine ⟨by kernel_rfl,?_⟩
  conv=>whnf
  obtain ⟨hp0,h⟩:=guardE h
  obtain ⟨l02Ints0,hb1,h⟩:=Option.bind_eq_some_iff.1 h
  refine ⟨?_,?_⟩
  rotate_left
  focus
   conv=>whnf
   refine ⟨by kernel_rfl,?_⟩
   conv=>whnf
   refine ⟨hp0,?_⟩
   conv=>whnf
   refine ⟨_,hb1,?_⟩
   conv=>whnf
   refine ⟨trivial,?_⟩
  rotate_right
  focus
   conv=>whnf
   refine ⟨?_,?_⟩
   rotate_left
   focus
    conv=>whnf
    refine ⟨by kernel_rfl,?_⟩
    conv=>whnf
    refine ⟨hp0,?_⟩
    conv=>whnf
    refine ⟨_,hb1,?_⟩
    conv=>whnf
    refine ⟨trivial,?_⟩
   rotate_right
   focus
    conv=>whnf
    refine ⟨by kernel_rfl,?_⟩
    conv=>whnf
    refine ⟨hp0,?_⟩
    conv=>whnf
    refine ⟨?_,?_⟩
    rotate_left
    focus
     conv=>whnf
     refine ⟨_,hb1,?_⟩
     conv=>whnf
     refine ⟨trivial,?_⟩
    rotate_right
    focus
     conv=>whnf
     refine ⟨_,hb1,?_⟩
     conv=>whnf
     refine ⟨trivial,?_⟩
  all_goals
   conv=>whnf
   refine Yu h ?_
   rintro I2 μ2 ⟨i0,c1,⟨⟩⟩ zs2 h hI2 hR2
   change Jm c0 l02Ints0 i0 c1=some zs2 at h
   unfold Jm at h
   conv=>whnf
   intro fp3
   conv=>whnf
   refine ZC h (fun h=>?_) (fun h=>?_)
   conv=>whnf
   refine vAt h (fun x0 he4a he4b he4x h=>?_)
   conv=>whnf
   refine Zl h (fun l03OwnTables0 hb5 h=>?_)
   conv=>whnf
   intro fp6
   conv=>whnf
   refine Zl h (fun l03OwnTables1 hb7 h=>?_)
   conv=>whnf
   intro fp8
   conv=>whnf
   intro fp9
   conv=>whnf
   refine YU h (fun hp10 h=>?_)
   conv=>whnf
   intro fp11
   conv=>whnf
   cases h
   exact ⟨⟨rfl,rfl⟩,hI2 _ rfl⟩
   conv=>whnf
   cases h
   obtain rfl:=hR2 _ rfl
   exact hK
theorem w53 (q0:Zc Tryz.prog 297 c52):Zc Tryz.prog 273 c53:=by
 refine Zf Zq (Ze q0 Zj) mixed {loops:=[(0,[.reg 5 (.dat (.int .i64))])]} (fn:=Tryz.f273) Tryz.func273 (by kernel_rfl) (by kernel_rfl) ?_
 rintro ⟨list0,positive0,⟨⟩⟩ K ⟨r,h,hK⟩
 change Yw list0 positive0=some r at h
 unfold Yw at h
 conv=>whnf
 refine Ya ?_
 refine ZC h (fun h=>?_) (fun h=>?_)
 conv=>whnf
 refine Yu h ?_
 rintro I0 μ0 ⟨i0,⟨⟩⟩ zs0 h hI0 hR0
 change VP list0 positive0 i0=some zs0 at h
 unfold VP at h
 conv=>whnf
 refine ZC h (fun h=>?_) (fun h=>?_)
 conv=>whnf
 refine vAt h (fun x0 he1a he1b he1x h=>?_)
 conv=>whnf
 refine Zl h (fun TableBounds0 hb2 h=>?_)
 conv=>whnf
 refine Zel ?_
 refine ZC h (fun h=>?_) (fun h=>?_)
 conv=>whnf
 refine YN h (fun h=>?_) (fun h=>?_)
 conv=>whnf
 refine ZC h (fun h=>?_) (fun h=>?_)
 conv=>whnf
 cases h
 obtain rfl:=hR0 _ rfl
 exact hK
 conv=>whnf
 cases h
 exact ⟨⟨rfl,rfl⟩,hI0 _ rfl⟩
 conv=>whnf
 cases h
 exact ⟨⟨rfl,rfl⟩,hI0 _ rfl⟩
 conv=>whnf
 cases h
 obtain rfl:=hR0 _ rfl
 exact hK
 conv=>whnf
 cases h
 obtain rfl:=hR0 _ rfl
 exact hK
 conv=>whnf
 cases h
 exact hK
theorem w92 (q0:Zc Tryz.prog 82 c62):Zc Tryz.prog 151 c92:=by
 refine Zf YO (Ze q0 Zj) mixed {loops:=[(0,[.reg 5 (.dat (.int .i64)),.ent 4 (nat_lit 72) (Dp.pair (Dp.ol (2:Go.TypeId) (Dp.flat (Ty.int IntKind.i64))) (Dp.pair (Dp.ol (2:Go.TypeId) (Dp.flat (Ty.int IntKind.i64))) (Dp.pair (Dp.ol (2:Go.TypeId) (Dp.flat (Ty.int IntKind.i64))) (Dp.pair (Dp.ol (2:Go.TypeId) (Dp.flat (Ty.int IntKind.i64))) (Dp.flat Ty.unit)))))]),(2,[.reg 6 (.own (.ol 2 (.flat (.int .i64)))),.reg 8 (.dat (.int .i64))])]} (fn:=Tryz.f151) Tryz.func151 (by kernel_rfl) (by kernel_rfl) ?_
 rintro ⟨b0,nodes0,⟨⟩⟩ K ⟨r,h,hK⟩
 change XZ b0 nodes0=some r at h
 unfold XZ at h
 conv=>whnf
 intro fp0
 conv=>whnf
 intro fp1
 conv=>whnf
 intro fp2
 conv=>whnf
 refine Yu h ?_
 rintro I3 μ3 ⟨net0,l0,⟨⟩⟩ zs3 h hI3 hR3
 change QK b0 nodes0 net0 l0=some zs3 at h
 unfold QK at h
 conv=>whnf
 intro fp4
 conv=>whnf
 refine ZC h (fun h=>?_) (fun h=>?_)
 conv=>whnf
 refine Zl h (fun l05Sinks0 hb5 h=>?_)
 conv=>whnf
 refine Yu h ?_
 rintro I6 μ6 ⟨list0,i0,⟨⟩⟩ zs6 h hI6 hR6
 change V3 nodes0 net0 l0 l05Sinks0 list0 i0=some zs6 at h
 unfold V3 at h
 conv=>whnf
 refine ZC h (fun h=>?_) (fun h=>?_)
 conv=>whnf
 refine vAt h (fun x0 he7a he7b he7x h=>?_)
 conv=>whnf
 refine ⟨by kernel_rfl,?_⟩
 conv=>whnf
 refine ⟨he7a,he7b,Zv he7x ?_⟩
 conv=>whnf
 refine vAt h (fun x1 he8a he8b he8x h=>?_)
 conv=>whnf
 refine YU h (fun hp9 h=>?_)
 conv=>whnf
 cases h
 exact ⟨⟨rfl,rfl⟩,hI6 _ rfl⟩
 conv=>whnf
 refine vAt h (fun x0 he10a he10b he10x h=>?_)
 conv=>whnf
 refine ⟨he10a,he10b,Zv he10x ?_⟩
 conv=>whnf
 intro fp11
 conv=>whnf
 cases h
 obtain rfl:=hR6 _ rfl
 exact ⟨⟨rfl,rfl⟩,hI3 _ rfl⟩
 conv=>whnf
 cases h
 obtain rfl:=hR3 _ rfl
 exact hK
theorem w76 (q0:Zc Tryz.prog 134 c61):Zc Tryz.prog 114 c76:=by
 refine Zf Zq (Ze q0 Zj) mixed {} (fn:=Tryz.f114) Tryz.func114 (by kernel_rfl) (by kernel_rfl) ?_
 rintro ⟨b0,⟨⟩⟩ K ⟨r,h,hK⟩
 change Zbi b0=some r at h
 unfold Zbi at h
 conv=>whnf
 refine Zl h (fun l05Places0 hb0 h=>?_)
 conv=>whnf
 cases h
 exact hK
end Go.Proofs.YtfndhpjedmopdaaGreatDoor
