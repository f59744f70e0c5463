/-
  The functions keep their contracts, if what they call does. Printed by program.
-/
import Derived.Test.YtfndhpjedmopdaaGreatDoorM
import Derived.KernelRfl
namespace Go.Proofs.YtfndhpjedmopdaaGreatDoor
open Go Go.Sx
set_option maxRecDepth 100000
set_option maxHeartbeats 3200000
set_option linter.unusedVariables false
set_option linter.unusedSimpArgs false
structure Ws3:Prop where
 w209:Zc Tryz.prog 95 ZAF→Zc Tryz.prog 63 Zzb→Zc Tryz.prog 129 c206→Zc Tryz.prog 130 ZBb→Zc Tryz.prog 125 c182→Zc Tryz.prog 131 c208→Zc Tryz.prog 65 ZAH
 w137:Zc Tryz.prog 245 ZBu→Zc Tryz.prog 246 c105→Zc Tryz.prog 203 ZAZ
 w227:Zc Tryz.prog 99 c227
 w122:Zc Tryz.prog 328 ZAh→Zc Tryz.prog 327 ZzJ
set_option maxHeartbeats 100000000 in
theorem ws3:Ws3:=by
 refine ⟨(fun q3 q4 q1 q0 q2 q5=>Zf Zq (Ze q3 (Ze q4 (Ze q1 (Ze q0 (Ze q2 (Ze q5 Zj)))))) mixed {loops:=[(0,[.reg 23 (.dat (.int .i64)),.ent 9 (nat_lit 4) (.flat Ty.bool),.ent 10 (nat_lit 158) (.flat Xj),.ent 11 (nat_lit 158) (.flat Xj)])],draws:=[(8,[0,1,0,0,8,0,0,64,0,0,512,0,3584,7680,0,16384,0,114688,245760,0,524288,0,3670016,7864320,16776711,33553927,67108415,134217279,268435455,536870911],.op 0 (.op 1 (.op 2 (.op 3 (.op 5 (.op 6 (.op 8 (.op 9 (.op 10 (.op 11 (.op 12 (.op 13 (.op 14 (.op 15 (.op 16 (.op 17 (.op 18 (.op 19 (.op 20 (.op 21 (.op 22 (.op 23 (.op 24 (.alt 4 (.alt 7 (.alt 25 (.op 26 (.alt 27 (.op 28 (.alt 29 (.done) (.done))) (.done))) (.done)) (.alt 25 (.op 26 (.alt 7 (.alt 27 (.op 28 (.alt 29 (.done) (.done))) (.done)) (.alt 27 (.alt 7 (.op 28 (.alt 29 (.done) (.done))) (.done)) (.done)))) (.done))) (.alt 7 (.alt 4 (.alt 25 (.op 26 (.alt 27 (.op 28 (.alt 29 (.done) (.done))) (.done))) (.done)) (.alt 25 (.alt 4 (.op 26 (.alt 27 (.op 28 (.alt 29 (.done) (.done))) (.done))) (.done)) (.done))) (.alt 25 (.alt 4 (.op 26 (.alt 7 (.alt 27 (.op 28 (.alt 29 (.done) (.done))) (.done)) (.alt 27 (.alt 7 (.op 28 (.alt 29 (.done) (.done))) (.done)) (.done)))) (.alt 7 (.alt 4 (.op 26 (.alt 27 (.op 28 (.alt 29 (.done) (.done))) (.done))) (.done)) (.done))) (.done)))))))))))))))))))))))))))]} (fn:=Tryz.f65) Tryz.func65 (by kernel_rfl) (by kernel_rfl) ?_),
 (fun q1 q0=>Zf Zq (Ze q1 (Ze q0 Zj)) mixed {loops:=[(0,[.reg 3 (.own (.ol 9 (.flat (.str)))),.reg 9 (.dat (.int .i64))])]} (fn:=Tryz.f203) Tryz.func203 (by kernel_rfl) (by kernel_rfl) ?_),
 (Zf Zq Zj mixed {loops:=[(0,[.reg 5 (.dat (.int .i64))])],draws:=[(6,[0,0,3,7,0,0,48,112,255],.op 0 (.op 1 (.op 2 (.op 3 (.op 4 (.op 5 (.op 6 (.op 7 (.op 8 (.done))))))))))]} (fn:=Tryz.f99) Tryz.func99 (by kernel_rfl) (by kernel_rfl) ?_),
 (fun q0=>Zf Zq (Ze q0 Zj) mixed {loops:=[(0,[.reg 8 (.dat (.int .i64))])]} (fn:=Tryz.f327) Tryz.func327 (by kernel_rfl) (by kernel_rfl) ?_)⟩
 all_goals
  intro a
  repeat rcases a with ⟨_,a⟩
  rintro K ⟨r,h,hK⟩
  repeat'
    conv=>whnf
    first
    | with_reducible refine Ztb ?_
    | with_reducible refine Zk8 (by assumption) (by assumption) (by assumption) ?_
    | with_reducible refine Zv (by assumption) ?_
    | with_reducible refine Zk5 (by assumption) ?_
    | (with_reducible refine shD ?_);first | refine ZC h (fun h=>?_) (fun h=>?_) | refine ZiY h (fun h=>?_) (fun h=>?_)
    | (with_reducible refine ZsW ?_);first | refine Zel ?_ | refine Ya ?_
    | (with_reducible refine ZxR ?_);first | refine YN h (fun h=>?_) (fun h=>?_) | refine Ztq h (fun h=>?_) (fun h=>?_)
    | (with_reducible refine ZxY ?_);first | refine Zl h (fun x hb h=>?_) | (obtain ⟨x,hb,h⟩:=ZfA h) | (obtain ⟨hp,h⟩:=guardE h)
    | (with_reducible refine ZxV ?_);first | refine vAt h (fun x ha hb hx h=>?_) | (obtain ⟨x,ha,hb,hx,h⟩:=atE h) | (obtain ⟨x,hb,h⟩:=ZfA h) | (obtain ⟨hp,h⟩:=guardE h)
    | (with_reducible refine Zs0 ?_);first | refine Zs7 h (fun x hb h=>?_) | (obtain ⟨x,ha,hb,hx,h⟩:=atE h) | (obtain ⟨x,hb,h⟩:=ZfA h) | (obtain ⟨hp,h⟩:=guardE h)
    | with_reducible refine ZxZ ?_
    | (with_reducible refine ZoS ?_);refine ZoR h hK ?_;clear h hK;intro I μ v r h hK;(repeat rcases v with ⟨_,v⟩);(try dsimp only at h)
    | with_reducible refine ⟨by assumption,?_⟩
    | with_reducible refine orL ?_
    | with_reducible refine .inr ?_
    | (with_reducible refine Ztp ?_);first | refine ⟨?_,True.intro⟩ | refine ⟨?_,?_⟩
    | refine ⟨by kernel_rfl,?_⟩
    | refine ⟨by decide,?_⟩
    | refine YU h (fun hp h=>?_)
    | intro fp
    | exact trivial
    | with_reducible exact Ztf h
    | obtain rfl:=Option.some.inj h;repeat (first | exact hK | exact ⟨⟨rfl,rfl⟩,hK.1 _ rfl⟩ | (obtain ⟨_,e,hK⟩:=hK;obtain rfl:=e _ rfl))
    | (obtain ⟨x,ha,hb,hx,h⟩:=atE h)
    | (obtain ⟨x,hb,h⟩:=ZfA h)
    | (obtain ⟨hp,h⟩:=guardE h)
theorem ZFr (q0:Zc Tryz.prog 303 c124) (q1:Zc Tryz.prog 209 Zrh):Zc Tryz.prog 316 ZzQ:=by
 refine Zf Zq (Ze q0 (Ze q1 Zj)) mixed {} (fn:=Tryz.f316) Tryz.func316 (by kernel_rfl) (by kernel_rfl) ?_
 rintro ⟨c0,pin0,⟨⟩⟩ K ⟨r,h,hK⟩
 change Vh c0 pin0=some r at h
 unfold Vh at h
 conv=>whnf
 refine Zl h (fun output0 hb0 h=>?_)
 conv=>whnf
 refine Zl h (fun within0 hb1 h=>?_)
 conv=>whnf
 cases h
 exact hK
theorem ZCb (q0:Zc Tryz.prog 303 c124) (q1:Zc Tryz.prog 211 ZxN) (q2:Zc Tryz.prog 304 ZAJ):Zc Tryz.prog 277 ZBw:=by
 refine Zf Zq (Ze q0 (Ze q1 (Ze q2 Zj))) mixed {loops:=[(0,[.reg 3 (.dat (.int .i64)),.reg 9 (.dat (.int .i64))])],draws:=[(10,[0,1,3,7,15,31,7,71,199,511,1023,2047,4095,8191,16383,32767,65535],.op 0 (.op 1 (.op 2 (.op 3 (.op 4 (.op 5 (.op 6 (.alt 7 (.op 8 (.op 9 (.op 10 (.op 11 (.op 12 (.op 13 (.alt 14 (.op 15 (.op 16 (.done))) (.done)))))))) (.done))))))))),(12,[0,1,3,7,15,31,63,127,255,511,1023,2047,4095,8191,16383,32767,16383,131071,262143,524287,1048575],.op 0 (.op 1 (.op 2 (.op 3 (.op 4 (.op 5 (.op 6 (.op 7 (.op 8 (.op 9 (.alt 10 (.op 11 (.op 12 (.op 13 (.op 14 (.op 16 (.alt 15 (.alt 17 (.op 18 (.op 19 (.op 20 (.done)))) (.done)) (.done))))))) (.done))))))))))))]} (fn:=Tryz.f277) Tryz.func277 (by kernel_rfl) (by kernel_rfl) ?_
 rintro ⟨a0,⟨⟩⟩ K ⟨r,h,hK⟩
 change VE a0=some r at h
 unfold VE at h
 conv=>whnf
 refine Yu h ?_
 rintro I0 μ0 ⟨v0,v1,⟨⟩⟩ zs0 h hI0 hR0
 change Y0 a0 v0 v1=some zs0 at h
 unfold Y0 at h
 conv=>whnf
 refine ZC h (fun h=>?_) (fun h=>?_)
 conv=>whnf
 refine vAt h (fun x0 he1a he1b he1x h=>?_)
 conv=>whnf
 refine YN h (fun h=>?_) (fun h=>?_)
 conv=>whnf
 cases h
 exact ⟨⟨rfl,rfl⟩,hI0 _ rfl⟩
 conv=>whnf
 cases h
 exact ⟨⟨rfl,rfl⟩,hI0 _ rfl⟩
 conv=>whnf
 refine ZC h (fun h=>?_) (fun h=>?_)
 conv=>whnf
 refine ⟨by kernel_rfl,?_⟩
 conv=>whnf
 refine ZC h (fun h=>?_) (fun h=>?_)
 conv=>whnf
 refine Zl h (fun output0 hb2 h=>?_)
 conv=>whnf
 refine YU h (fun hp3 h=>?_)
 conv=>whnf
 refine ZC h (fun h=>?_) (fun h=>?_)
 conv=>whnf
 refine Zl h (fun areWithin0 hb4 h=>?_)
 conv=>whnf
 refine ⟨trivial,?_⟩
 conv=>whnf
 cases h
 obtain rfl:=hR0 _ rfl
 exact hK
 conv=>whnf
 refine ⟨trivial,?_⟩
 conv=>whnf
 cases h
 obtain rfl:=hR0 _ rfl
 exact hK
 conv=>whnf
 refine ⟨trivial,?_⟩
 conv=>whnf
 cases h
 obtain rfl:=hR0 _ rfl
 exact hK
 conv=>whnf
 refine ZC h (fun h=>?_) (fun h=>?_)
 conv=>whnf
 refine ⟨by kernel_rfl,?_⟩
 conv=>whnf
 refine ZC h (fun h=>?_) (fun h=>?_)
 conv=>whnf
 refine ZC h (fun h=>?_) (fun h=>?_)
 conv=>whnf
 refine Zl h (fun has0 hb5 h=>?_)
 conv=>whnf
 refine Ya ?_
 refine YN h (fun h=>?_) (fun h=>?_)
 conv=>whnf
 refine ⟨trivial,?_⟩
 conv=>whnf
 cases h
 obtain rfl:=hR0 _ rfl
 exact hK
 conv=>whnf
 refine Zl h (fun has1 hb6 h=>?_)
 conv=>whnf
 refine Zl h (fun has2 hb7 h=>?_)
 conv=>whnf
 refine ⟨trivial,?_⟩
 conv=>whnf
 cases h
 obtain rfl:=hR0 _ rfl
 exact hK
 conv=>whnf
 refine ⟨trivial,?_⟩
 conv=>whnf
 cases h
 obtain rfl:=hR0 _ rfl
 exact hK
 conv=>whnf
 refine ⟨trivial,?_⟩
 conv=>whnf
 cases h
 obtain rfl:=hR0 _ rfl
 exact hK
 conv=>whnf
 refine ZC h (fun h=>?_) (fun h=>?_)
 conv=>whnf
 refine ZC h (fun h=>?_) (fun h=>?_)
 conv=>whnf
 refine ZC h (fun h=>?_) (fun h=>?_)
 conv=>whnf
 refine Zl h (fun has0 hb8 h=>?_)
 conv=>whnf
 refine YN h (fun h=>?_) (fun h=>?_)
 conv=>whnf
 refine Zl h (fun has1 hb9 h=>?_)
 conv=>whnf
 refine YN h (fun h=>?_) (fun h=>?_)
 conv=>whnf
 refine Zl h (fun has2 hb10 h=>?_)
 conv=>whnf
 cases h
 obtain rfl:=hR0 _ rfl
 exact hK
 conv=>whnf
 cases h
 obtain rfl:=hR0 _ rfl
 exact hK
 conv=>whnf
 cases h
 obtain rfl:=hR0 _ rfl
 exact hK
 conv=>whnf
 cases h
 obtain rfl:=hR0 _ rfl
 exact hK
 conv=>whnf
 cases h
 obtain rfl:=hR0 _ rfl
 exact hK
 conv=>whnf
 cases h
 obtain rfl:=hR0 _ rfl
 exact hK
theorem ZET (q0:Zc Tryz.prog 215 c193) (q2:Zc Tryz.prog 216 c194) (q1:Zc Tryz.prog 217 ZA7) (q3:Zc Tryz.prog 184 Zxu):Zc Tryz.prog 158 c196:=by
 refine Zf YO (Ze q0 (Ze q2 (Ze q1 (Ze q3 Zj)))) mixed {loops:=[(0,[.reg 19 (.dat (.int .i64)),.splt 1300 169 (Zb4)])],draws:=[(1,[0,1,3,0,8,31,0,64,255,511,0,2047],.op 0 (.op 1 (.op 3 (.op 4 (.op 6 (.op 7 (.alt 2 (.alt 5 (.alt 8 (.op 9 (.alt 10 (.alt 11 (.done) (.done)) (.done))) (.alt 10 (.alt 8 (.op 9 (.alt 11 (.done) (.done))) (.done)) (.done))) (.alt 10 (.alt 5 (.alt 8 (.op 9 (.alt 11 (.done) (.done))) (.done)) (.done)) (.done))) (.alt 10 (.alt 2 (.alt 5 (.alt 8 (.op 9 (.alt 11 (.done) (.done))) (.done)) (.done)) (.done)) (.done))))))))),(5,[0,1,0,0,8,24,63,127,255],.op 0 (.op 1 (.op 2 (.op 3 (.op 4 (.alt 5 (.op 6 (.op 7 (.alt 8 (.done) (.done)))) (.done)))))))]} (fn:=Tryz.f158) Tryz.func158 (by kernel_rfl) (by kernel_rfl) ?_
 rintro ⟨d0,⟨⟩⟩ K ⟨r,h,hK⟩
 change Jh d0=some r at h
 unfold Jh at h
 focus
  conv=>whnf
  refine ⟨by kernel_rfl,?_⟩
  conv=>whnf
  obtain ⟨Instance0,hb0,h⟩:=Option.bind_eq_some_iff.1 h
  obtain ⟨string0,hb1,h⟩:=Option.bind_eq_some_iff.1 h
  obtain ⟨Port0,hb2,h⟩:=Option.bind_eq_some_iff.1 h
  refine ⟨?_,?_⟩
  rotate_left
  focus
   conv=>whnf
   refine ⟨_,hb0,?_⟩
   conv=>whnf
   refine ⟨_,hb1,?_⟩
   conv=>whnf
   refine ⟨_,hb2,?_⟩
   conv=>whnf
   refine ⟨trivial,?_⟩
  rotate_right
  focus
   conv=>whnf
   refine ⟨_,hb0,?_⟩
   conv=>whnf
   refine ⟨?_,?_⟩
   rotate_left
   focus
    conv=>whnf
    refine ⟨_,hb1,?_⟩
    conv=>whnf
    refine ⟨_,hb2,?_⟩
    conv=>whnf
    refine ⟨trivial,?_⟩
   rotate_right
   focus
    conv=>whnf
    refine ⟨_,hb1,?_⟩
    conv=>whnf
    refine ⟨?_,?_⟩
    rotate_left
    focus
     conv=>whnf
     refine ⟨_,hb2,?_⟩
     conv=>whnf
     refine ⟨trivial,?_⟩
    rotate_right
    focus
     conv=>whnf
     refine ⟨_,hb2,?_⟩
     conv=>whnf
     refine ⟨trivial,?_⟩
  all_goals
   conv=>whnf
   refine Yu h ?_
   rintro I3 μ3 ⟨v0,l0,⟨⟩⟩ zs3 h hI3 hR3
   change Qy Instance0 string0 Port0 v0 l0=some zs3 at h
   unfold Qy at h
   conv=>whnf
   intro fp4
   conv=>whnf
   refine ZC h (fun h=>?_) (fun h=>?_)
   conv=>whnf
   refine vAt h (fun x0 he5a he5b he5x h=>?_)
   conv=>whnf
   refine YU h (fun hp6 h=>?_)
   conv=>whnf
   refine ⟨he5a,he5b,Zv he5x ?_⟩
   conv=>whnf
   refine ⟨by kernel_rfl,?_⟩
   conv=>whnf
   refine Zl h (fun int64_0 hb7 h=>?_)
   conv=>whnf
   refine ⟨he5a,he5b,Zv he5x ?_⟩
   conv=>whnf
   refine YU h (fun hp8 h=>?_)
   conv=>whnf
   refine vAt h (fun x1 he9a he9b he9x h=>?_)
   conv=>whnf
   refine ⟨trivial,?_⟩
   conv=>whnf
   cases h
   exact ⟨⟨rfl,rfl⟩,hI3 _ rfl⟩
   conv=>whnf
   refine YU h (fun hp10 h=>?_)
   conv=>whnf
   cases h
   obtain rfl:=hR3 _ rfl
   exact hK
theorem ZEU (q0:Zc Tryz.prog 246 c105):Zc Tryz.prog 204 c138:=by
 refine Zf Zq (Ze q0 Zj) mixed {loops:=[(0,[.reg 3 (.own (.ol 9 (.flat (.str)))),.reg 12 (.dat (.int .i64))]),(2,[.reg 4 (.own (.ol 9 (.flat (.str)))),.reg 25 (.dat (.int .i64))])]} (fn:=Tryz.f204) Tryz.func204 (by kernel_rfl) (by kernel_rfl) ?_
 rintro ⟨d0,⟨⟩⟩ K ⟨r,h,hK⟩
 change QS d0=some r at h
 unfold QS at h
 conv=>whnf
 refine Yu h ?_
 rintro I0 μ0 ⟨instances0,v0,⟨⟩⟩ zs0 h hI0 hR0
 change XI d0 instances0 v0=some zs0 at h
 unfold XI at h
 conv=>whnf
 refine ZC h (fun h=>?_) (fun h=>?_)
 conv=>whnf
 refine vAt h (fun x0 he1a he1b he1x h=>?_)
 conv=>whnf
 refine YU h (fun hp2 h=>?_)
 conv=>whnf
 cases h
 exact ⟨⟨rfl,rfl⟩,hI0 _ rfl⟩
 conv=>whnf
 refine Yu h ?_
 rintro I3 μ3 ⟨ports0,v1,⟨⟩⟩ zs3 h hI3 hR3
 change XF d0 instances0 ports0 v1=some zs3 at h
 unfold XF at h
 conv=>whnf
 refine ZC h (fun h=>?_) (fun h=>?_)
 conv=>whnf
 refine vAt h (fun x0 he4a he4b he4x h=>?_)
 conv=>whnf
 refine YU h (fun hp5 h=>?_)
 conv=>whnf
 cases h
 exact ⟨⟨rfl,rfl⟩,hI3 _ rfl⟩
 conv=>whnf
 refine ZC h (fun h=>?_) (fun h=>?_)
 conv=>whnf
 refine ZC h (fun h=>?_) (fun h=>?_)
 conv=>whnf
 refine ZC h (fun h=>?_) (fun h=>?_)
 conv=>whnf
 refine Zl h (fun areNames0 hb6 h=>?_)
 conv=>whnf
 refine YN h (fun h=>?_) (fun h=>?_)
 conv=>whnf
 refine Zl h (fun areNames1 hb7 h=>?_)
 conv=>whnf
 refine YN h (fun h=>?_) (fun h=>?_)
 conv=>whnf
 refine Zl h (fun areNames2 hb8 h=>?_)
 conv=>whnf
 cases h
 obtain rfl:=hR3 _ rfl
 obtain rfl:=hR0 _ rfl
 exact hK
 conv=>whnf
 cases h
 obtain rfl:=hR3 _ rfl
 obtain rfl:=hR0 _ rfl
 exact hK
 conv=>whnf
 cases h
 obtain rfl:=hR3 _ rfl
 obtain rfl:=hR0 _ rfl
 exact hK
 conv=>whnf
 cases h
 obtain rfl:=hR3 _ rfl
 obtain rfl:=hR0 _ rfl
 exact hK
 conv=>whnf
 cases h
 obtain rfl:=hR3 _ rfl
 obtain rfl:=hR0 _ rfl
 exact hK
 conv=>whnf
 cases h
 obtain rfl:=hR3 _ rfl
 obtain rfl:=hR0 _ rfl
 exact hK
theorem ZES (q2:Zc Tryz.prog 119 ZsN) (q5:Zc Tryz.prog 221 c162) (q6:Zc Tryz.prog 222 Zzv) (q7:Zc Tryz.prog 223 Zx5) (q3:Zc Tryz.prog 224 ZzI) (q1:Zc Tryz.prog 225 c167) (q0:Zc Tryz.prog 226 c168) (q4:Zc Tryz.prog 121 Zxi) (q8:Zc Tryz.prog 156 c152):Zc Tryz.prog 161 ZBl:=by
 refine Zf Zq (Ze q2 (Ze q5 (Ze q6 (Ze q7 (Ze q3 (Ze q1 (Ze q0 (Ze q4 (Ze q8 Zj))))))))) mixed {draws:=[(6,[0,1,3,7,15,31,63,127,255,511,1023,255,2303,255,8447,30975,63743,129279,262143,524287,255,1048831,3145983,255,8388863,32506111,66060543,134217727,268435455,536870911],.op 0 (.op 1 (.op 2 (.op 3 (.op 4 (.op 5 (.op 6 (.op 7 (.op 8 (.op 9 (.op 10 (.op 11 (.op 12 (.op 13 (.op 14 (.op 15 (.op 16 (.op 17 (.op 18 (.op 19 (.op 20 (.op 21 (.op 22 (.op 23 (.op 24 (.op 25 (.op 26 (.alt 27 (.op 28 (.op 29 (.done))) (.done))))))))))))))))))))))))))))),(12,[0,0,2,7,15,31,63,127,255,255,767,2047,4095,8191,255,16639,65535,131071,262143],.op 0 (.op 1 (.op 2 (.op 3 (.op 4 (.op 5 (.op 6 (.op 7 (.op 8 (.op 9 (.op 10 (.op 11 (.op 12 (.op 13 (.op 14 (.op 15 (.op 16 (.op 17 (.op 18 (.done)))))))))))))))))))),(13,[0,1,0,4,0,16,60,124,252,508,1023,2047],.op 0 (.op 1 (.op 2 (.op 3 (.op 4 (.op 5 (.op 6 (.op 7 (.op 8 (.alt 9 (.alt 10 (.op 11 (.done)) (.done)) (.done)))))))))))]} (fn:=Tryz.f161) Tryz.func161 (by kernel_rfl) (by kernel_rfl) ?_
 rintro ⟨a0,a1,⟨⟩⟩ K ⟨r,h,hK⟩
 change QI a0 a1=some r at h
 unfold QI at h
 conv=>whnf
 refine Zl h (fun places0 hb0 h=>?_)
 conv=>whnf
 refine ZC h (fun h=>?_) (fun h=>?_)
 conv=>whnf
 refine vAt h (fun x0 he1a he1b he1x h=>?_)
 conv=>whnf
 refine ⟨by kernel_rfl,?_⟩
 conv=>whnf
 refine ⟨he1a,he1b,Zv he1x ?_⟩
 conv=>whnf
 refine ⟨by kernel_rfl,?_⟩
 conv=>whnf
 refine ZC h (fun h=>?_) (fun h=>?_)
 conv=>whnf
 refine YN h (fun h=>?_) (fun h=>?_)
 conv=>whnf
 refine vAt h (fun x1 he2a he2b he2x h=>?_)
 conv=>whnf
 refine vAt h (fun x2 he3a he3b he3x h=>?_)
 conv=>whnf
 refine vAt h (fun x3 he4a he4b he4x h=>?_)
 conv=>whnf
 refine Zl h (fun fitsSwap0 hb5 h=>?_)
 conv=>whnf
 refine ⟨trivial,?_⟩
 conv=>whnf
 cases h
 exact hK
 conv=>whnf
 refine ⟨trivial,?_⟩
 conv=>whnf
 cases h
 exact hK
 conv=>whnf
 refine ⟨trivial,?_⟩
 conv=>whnf
 cases h
 exact hK
 conv=>whnf
 refine ZC h (fun h=>?_) (fun h=>?_)
 conv=>whnf
 refine vAt h (fun x0 he6a he6b he6x h=>?_)
 conv=>whnf
 refine ⟨by kernel_rfl,?_⟩
 conv=>whnf
 refine ⟨he6a,he6b,Zv he6x ?_⟩
 conv=>whnf
 refine Ya ?_
 refine YN h (fun h=>?_) (fun h=>?_)
 conv=>whnf
 cases h
 exact hK
 conv=>whnf
 refine vAt h (fun x1 he7a he7b he7x h=>?_)
 conv=>whnf
 refine Zl h (fun isBuffer0 hb8 h=>?_)
 conv=>whnf
 refine YN h (fun h=>?_) (fun h=>?_)
 conv=>whnf
 refine Zl h (fun isName0 hb9 h=>?_)
 conv=>whnf
 refine YN h (fun h=>?_) (fun h=>?_)
 conv=>whnf
 refine Zl h (fun InstanceNamed0 hb10 h=>?_)
 conv=>whnf
 refine ZC h (fun h=>?_) (fun h=>?_)
 conv=>whnf
 refine Zl h (fun netNamed0 hb11 h=>?_)
 conv=>whnf
 cases h
 exact hK
 conv=>whnf
 cases h
 exact hK
 conv=>whnf
 cases h
 exact hK
 conv=>whnf
 cases h
 exact hK
 conv=>whnf
 refine ZC h (fun h=>?_) (fun h=>?_)
 conv=>whnf
 refine Zl h (fun canUnbuffer0 hb12 h=>?_)
 conv=>whnf
 cases h
 exact hK
 conv=>whnf
 refine ZC h (fun h=>?_) (fun h=>?_)
 conv=>whnf
 refine ⟨by kernel_rfl,?_⟩
 conv=>whnf
 refine vAt h (fun x0 he13a he13b he13x h=>?_)
 conv=>whnf
 refine ⟨by kernel_rfl,?_⟩
 conv=>whnf
 refine ⟨he13a,he13b,Zv he13x ?_⟩
 conv=>whnf
 refine Ya ?_
 refine YN h (fun h=>?_) (fun h=>?_)
 conv=>whnf
 refine ⟨trivial,?_⟩
 conv=>whnf
 cases h
 exact hK
 conv=>whnf
 refine ⟨he13a,he13b,Zv he13x ?_⟩
 conv=>whnf
 refine ⟨by kernel_rfl,?_⟩
 conv=>whnf
 refine ⟨he13a,he13b,Zv he13x ?_⟩
 conv=>whnf
 refine ⟨trivial,?_⟩
 conv=>whnf
 cases h
 exact hK
 conv=>whnf
 refine ⟨by kernel_rfl,?_⟩
 conv=>whnf
 refine vAt h (fun x0 he14a he14b he14x h=>?_)
 conv=>whnf
 refine Zl h (fun int64_0 hb15 h=>?_)
 conv=>whnf
 refine Zl h (fun IsWire0 hb16 h=>?_)
 conv=>whnf
 refine ⟨trivial,?_⟩
 conv=>whnf
 cases h
 exact hK
theorem ZEv (q0:Zc Tryz.prog 191 Zzu) (q1:Zc Tryz.prog 119 ZsN):Zc Tryz.prog 130 ZBb:=by
 refine Zf Zq (Ze q0 (Ze q1 Zj)) mixed {loops:=[(0,[.reg 5 (.own (.ol 2 (.flat (.int .i64)))),.reg 19 (.dat (.int .i64))])]} (fn:=Tryz.f130) Tryz.func130 (by kernel_rfl) (by kernel_rfl) ?_
 rintro ⟨e0,b0,⟨⟩⟩ K ⟨r,h,hK⟩
 change Qg e0 b0=some r at h
 unfold Qg at h
 conv=>whnf
 refine Zl h (fun Instance0 hb0 h=>?_)
 conv=>whnf
 refine Zl h (fun places0 hb1 h=>?_)
 conv=>whnf
 refine Yu h ?_
 rintro I2 μ2 ⟨out0,v0,⟨⟩⟩ zs2 h hI2 hR2
 change Y4 e0 Instance0 places0 out0 v0=some zs2 at h
 unfold Y4 at h
 conv=>whnf
 refine ZC h (fun h=>?_) (fun h=>?_)
 conv=>whnf
 refine vAt h (fun x0 he3a he3b he3x h=>?_)
 conv=>whnf
 refine ⟨by kernel_rfl,?_⟩
 conv=>whnf
 refine ⟨he3a,he3b,Zv he3x ?_⟩
 conv=>whnf
 refine ZC h (fun h=>?_) (fun h=>?_)
 conv=>whnf
 refine ZC h (fun h=>?_) (fun h=>?_)
 conv=>whnf
 refine YU h (fun hp4 h=>?_)
 conv=>whnf
 cases h
 exact ⟨⟨rfl,rfl⟩,hI2 _ rfl⟩
 conv=>whnf
 refine ZC h (fun h=>?_) (fun h=>?_)
 conv=>whnf
 refine ZC h (fun h=>?_) (fun h=>?_)
 conv=>whnf
 refine YU h (fun hp5 h=>?_)
 conv=>whnf
 cases h
 exact ⟨⟨rfl,rfl⟩,hI2 _ rfl⟩
 conv=>whnf
 refine ZC h (fun h=>?_) (fun h=>?_)
 conv=>whnf
 refine ZC h (fun h=>?_) (fun h=>?_)
 conv=>whnf
 refine YU h (fun hp6 h=>?_)
 conv=>whnf
 cases h
 exact ⟨⟨rfl,rfl⟩,hI2 _ rfl⟩
 conv=>whnf
 refine YU h (fun hp7 h=>?_)
 conv=>whnf
 cases h
 exact ⟨⟨rfl,rfl⟩,hI2 _ rfl⟩
 conv=>whnf
 refine YU h (fun hp8 h=>?_)
 conv=>whnf
 cases h
 exact ⟨⟨rfl,rfl⟩,hI2 _ rfl⟩
 conv=>whnf
 refine ZC h (fun h=>?_) (fun h=>?_)
 conv=>whnf
 refine ZC h (fun h=>?_) (fun h=>?_)
 conv=>whnf
 refine YU h (fun hp9 h=>?_)
 conv=>whnf
 cases h
 exact ⟨⟨rfl,rfl⟩,hI2 _ rfl⟩
 conv=>whnf
 refine YU h (fun hp10 h=>?_)
 conv=>whnf
 cases h
 exact ⟨⟨rfl,rfl⟩,hI2 _ rfl⟩
 conv=>whnf
 refine YU h (fun hp11 h=>?_)
 conv=>whnf
 cases h
 exact ⟨⟨rfl,rfl⟩,hI2 _ rfl⟩
 conv=>whnf
 refine ZC h (fun h=>?_) (fun h=>?_)
 conv=>whnf
 refine ZC h (fun h=>?_) (fun h=>?_)
 conv=>whnf
 refine YU h (fun hp12 h=>?_)
 conv=>whnf
 cases h
 exact ⟨⟨rfl,rfl⟩,hI2 _ rfl⟩
 conv=>whnf
 refine ZC h (fun h=>?_) (fun h=>?_)
 conv=>whnf
 refine ZC h (fun h=>?_) (fun h=>?_)
 conv=>whnf
 refine YU h (fun hp13 h=>?_)
 conv=>whnf
 cases h
 exact ⟨⟨rfl,rfl⟩,hI2 _ rfl⟩
 conv=>whnf
 refine YU h (fun hp14 h=>?_)
 conv=>whnf
 cases h
 exact ⟨⟨rfl,rfl⟩,hI2 _ rfl⟩
 conv=>whnf
 refine YU h (fun hp15 h=>?_)
 conv=>whnf
 cases h
 exact ⟨⟨rfl,rfl⟩,hI2 _ rfl⟩
 conv=>whnf
 refine ZC h (fun h=>?_) (fun h=>?_)
 conv=>whnf
 refine ZC h (fun h=>?_) (fun h=>?_)
 conv=>whnf
 refine YU h (fun hp16 h=>?_)
 conv=>whnf
 cases h
 exact ⟨⟨rfl,rfl⟩,hI2 _ rfl⟩
 conv=>whnf
 refine YU h (fun hp17 h=>?_)
 conv=>whnf
 cases h
 exact ⟨⟨rfl,rfl⟩,hI2 _ rfl⟩
 conv=>whnf
 refine YU h (fun hp18 h=>?_)
 conv=>whnf
 cases h
 exact ⟨⟨rfl,rfl⟩,hI2 _ rfl⟩
 conv=>whnf
 cases h
 obtain rfl:=hR2 _ rfl
 exact hK
theorem ZFd (q0:Zc Tryz.prog 256 ZAX):Zc Tryz.prog 224 ZzI:=by
 refine Zf Zq (Ze q0 Zj) mixed {} (fn:=Tryz.f224) Tryz.func224 (by kernel_rfl) (by kernel_rfl) ?_
 rintro ⟨d0,name0,⟨⟩⟩ K ⟨r,h,hK⟩
 change Vw d0 name0=some r at h
 unfold Vw at h
 conv=>whnf
 refine Zl h (fun c1_0 hb0 h=>?_)
 conv=>whnf
 cases h
 exact hK
theorem ZEy (q1:Zc Tryz.prog 223 Zx5) (q0:Zc Tryz.prog 278 ZzY):Zc Tryz.prog 246 c105:=by
 refine Zf Zq (Ze q1 (Ze q0 Zj)) mixed {loops:=[(0,[.reg 7 (.dat (.int .i64))])]} (fn:=Tryz.f246) Tryz.func246 (by kernel_rfl) (by kernel_rfl) ?_
 rintro ⟨list0,⟨⟩⟩ K ⟨r,h,hK⟩
 change Vm list0=some r at h
 unfold Vm at h
 conv=>whnf
 refine Yu h ?_
 rintro I0 μ0 ⟨v0,⟨⟩⟩ zs0 h hI0 hR0
 change JB list0 v0=some zs0 at h
 unfold JB at h
 conv=>whnf
 refine ZC h (fun h=>?_) (fun h=>?_)
 conv=>whnf
 refine vAt h (fun x0 he1a he1b he1x h=>?_)
 conv=>whnf
 refine Zl h (fun isName0 hb2 h=>?_)
 conv=>whnf
 refine Zel ?_
 refine YN h (fun h=>?_) (fun h=>?_)
 conv=>whnf
 refine ⟨by decide,?_⟩
 conv=>whnf
 refine YU h (fun hp3 h=>?_)
 conv=>whnf
 refine YU h (fun hp4 h=>?_)
 conv=>whnf
 refine Zl h (fun string0 hb5 h=>?_)
 conv=>whnf
 refine YN h (fun h=>?_) (fun h=>?_)
 conv=>whnf
 cases h
 obtain rfl:=hR0 _ rfl
 exact hK
 conv=>whnf
 cases h
 exact ⟨⟨rfl,rfl⟩,hI0 _ rfl⟩
 conv=>whnf
 cases h
 obtain rfl:=hR0 _ rfl
 exact hK
 conv=>whnf
 cases h
 obtain rfl:=hR0 _ rfl
 exact hK
theorem ZFs (q0:Zc Tryz.prog 323 c119):Zc Tryz.prog 314 ZAE:=by
 refine Zf Zq (Ze q0 Zj) mixed {} (fn:=Tryz.f314) Tryz.func314 (by kernel_rfl) (by kernel_rfl) ?_
 rintro ⟨list0,positive0,⟨⟩⟩ K ⟨r,h,hK⟩
 change Jc list0 positive0=some r at h
 unfold Jc at h
 conv=>whnf
 refine ZC h (fun h=>?_) (fun h=>?_)
 conv=>whnf
 refine Zl h (fun c1_0 hb0 h=>?_)
 conv=>whnf
 cases h
 exact hK
 conv=>whnf
 cases h
 exact hK
theorem ZBY:Zc Tryz.prog 313 c107:=by
 refine Zf Zq Zj mixed {} (fn:=Tryz.f313) Tryz.func313 (by kernel_rfl) (by kernel_rfl) ?_
 rintro ⟨kind0,⟨⟩⟩ K ⟨r,h,hK⟩
 change Zdv kind0=some r at h
 unfold Zdv at h
 conv=>whnf
 refine ZiY h (fun h=>?_) (fun h=>?_)
 conv=>whnf
 cases h
 exact hK
 conv=>whnf
 cases h
 exact hK
theorem ZEk:Zc Tryz.prog 125 c182:=by
 refine Zf Zq Zj mixed {} (fn:=Tryz.f125) Tryz.func125 (by kernel_rfl) (by kernel_rfl) ?_
 rintro ⟨list0,⟨⟩⟩ K ⟨r,h,hK⟩
 change VJ list0=some r at h
 unfold VJ at h
 conv=>whnf
 cases h
 exact hK
theorem ZCK:Zc Tryz.prog 121 Zxi:=by
 refine Zf Zq Zj mixed {} (fn:=Tryz.f121) Tryz.func121 (by kernel_rfl) (by kernel_rfl) ?_
 rintro ⟨list0,⟨⟩⟩ K ⟨r,h,hK⟩
 change YE list0=some r at h
 unfold YE at h
 conv=>whnf
 cases h
 exact hK
theorem ZCc (q0:Zc Tryz.prog 188 Zzy):Zc Tryz.prog 124 Zzp:=by
 refine Zf Zq (Ze q0 Zj) mixed {} (fn:=Tryz.f124) Tryz.func124 (by kernel_rfl) (by kernel_rfl) ?_
 rintro ⟨v0,⟨⟩⟩ K ⟨r,h,hK⟩
 change JN v0=some r at h
 unfold JN at h
 conv=>whnf
 refine Zl h (fun place0 hb0 h=>?_)
 conv=>whnf
 cases h
 exact hK
theorem ZE1 (q1:Zc Tryz.prog 229 ZAU) (q2:Zc Tryz.prog 230 ZBj) (q0:Zc Tryz.prog 30 ZxT):Zc Tryz.prog 168 c222:=by
 refine Zf Zq (Ze q1 (Ze q2 (Ze q0 Zj))) mixed {} (fn:=Tryz.f168) Tryz.func168 (by kernel_rfl) (by kernel_rfl) ?_
 rintro ⟨a0,b0,⟨⟩⟩ K ⟨r,h,hK⟩
 change Zdg a0 b0=some r at h
 unfold Zdg at h
 conv=>whnf
 refine Ya ?_
 refine ZC h (fun h=>?_) (fun h=>?_)
 conv=>whnf
 refine Ya ?_
 refine ZC h (fun h=>?_) (fun h=>?_)
 conv=>whnf
 refine Zl h (fun eqPinS0 hb0 h=>?_)
 conv=>whnf
 refine Ya ?_
 refine YN h (fun h=>?_) (fun h=>?_)
 conv=>whnf
 refine Zl h (fun eqArcS0 hb1 h=>?_)
 conv=>whnf
 refine Ya ?_
 refine YN h (fun h=>?_) (fun h=>?_)
 conv=>whnf
 refine Zl h (fun eqInt64S0 hb2 h=>?_)
 conv=>whnf
 refine Ya ?_
 refine YN h (fun h=>?_) (fun h=>?_)
 conv=>whnf
 refine Ya ?_
 refine ZC h (fun h=>?_) (fun h=>?_)
 conv=>whnf
 refine Ya ?_
 refine ZC h (fun h=>?_) (fun h=>?_)
 conv=>whnf
 cases h
 exact hK
 conv=>whnf
 cases h
 exact hK
 conv=>whnf
 cases h
 exact hK
 conv=>whnf
 cases h
 exact hK
 conv=>whnf
 cases h
 exact hK
 conv=>whnf
 cases h
 exact hK
 conv=>whnf
 cases h
 exact hK
 conv=>whnf
 cases h
 exact hK
theorem ZE3 (q0:Zc Tryz.prog 98 c226) (q1:Zc Tryz.prog 99 c227) (q2:Zc Tryz.prog 100 c229):Zc Tryz.prog 44 ZAI:=by
 refine Zf Zq (Ze q0 (Ze q1 (Ze q2 Zj))) mixed {} (fn:=Tryz.f44) Tryz.func44 (by kernel_rfl) (by kernel_rfl) ?_
 rintro ⟨a0,b0,⟨⟩⟩ K ⟨r,h,hK⟩
 change ZcC a0 b0=some r at h
 unfold ZcC at h
 conv=>whnf
 refine Zl h (fun eqInstanceS0 hb0 h=>?_)
 conv=>whnf
 refine Ya ?_
 refine YN h (fun h=>?_) (fun h=>?_)
 conv=>whnf
 refine Zl h (fun eqStringS0 hb1 h=>?_)
 conv=>whnf
 refine Ya ?_
 refine YN h (fun h=>?_) (fun h=>?_)
 conv=>whnf
 refine Zl h (fun eqPortS0 hb2 h=>?_)
 conv=>whnf
 refine Ya ?_
 refine YN h (fun h=>?_) (fun h=>?_)
 conv=>whnf
 cases h
 exact hK
 conv=>whnf
 cases h
 exact hK
 conv=>whnf
 cases h
 exact hK
 conv=>whnf
 cases h
 exact hK
theorem ZFl:Zc Tryz.prog 132 c212:=by
 refine Zf Zq Zj mixed {} (fn:=Tryz.f132) Tryz.func132 (by kernel_rfl) (by kernel_rfl) ?_
 rintro ⟨a0,b0,⟨⟩⟩ K ⟨r,h,hK⟩
 change Zdj a0 b0=some r at h
 unfold Zdj at h
 conv=>whnf
 refine Ya ?_
 refine ZC h (fun h=>?_) (fun h=>?_)
 conv=>whnf
 refine Ya ?_
 refine ZC h (fun h=>?_) (fun h=>?_)
 conv=>whnf
 cases h
 exact hK
 conv=>whnf
 cases h
 exact hK
 conv=>whnf
 cases h
 exact hK
theorem ZFt (q0:Zc Tryz.prog 30 ZxT):Zc Tryz.prog 68 Zzh:=by
 refine Zf Zq (Ze q0 Zj) mixed {} (fn:=Tryz.f68) Tryz.func68 (by kernel_rfl) (by kernel_rfl) ?_
 rintro ⟨a0,b0,⟨⟩⟩ K ⟨r,h,hK⟩
 change Zcd a0 b0=some r at h
 unfold Zcd at h
 conv=>whnf
 refine Zl h (fun eqInt64S0 hb0 h=>?_)
 conv=>whnf
 refine Ya ?_
 refine YN h (fun h=>?_) (fun h=>?_)
 conv=>whnf
 refine Zl h (fun eqInt64S1 hb1 h=>?_)
 conv=>whnf
 refine Ya ?_
 refine YN h (fun h=>?_) (fun h=>?_)
 conv=>whnf
 refine Zl h (fun eqInt64S2 hb2 h=>?_)
 conv=>whnf
 refine Ya ?_
 refine YN h (fun h=>?_) (fun h=>?_)
 conv=>whnf
 refine Zl h (fun eqInt64S3 hb3 h=>?_)
 conv=>whnf
 refine Ya ?_
 refine YN h (fun h=>?_) (fun h=>?_)
 conv=>whnf
 cases h
 exact hK
 conv=>whnf
 cases h
 exact hK
 conv=>whnf
 cases h
 exact hK
 conv=>whnf
 cases h
 exact hK
 conv=>whnf
 cases h
 exact hK
theorem ZC8 (q0:Zc Tryz.prog 68 Zzh):Zc Tryz.prog 45 c232:=by
 refine Zf Zq (Ze q0 Zj) mixed {loops:=[(0,[.reg 5 (.dat (.int .i64))])],draws:=[(6,[0,0,3,7,0,0,48,112,255,511],.op 0 (.op 1 (.op 2 (.op 3 (.op 4 (.op 5 (.op 6 (.op 7 (.alt 8 (.op 9 (.done)) (.done))))))))))]} (fn:=Tryz.f45) Tryz.func45 (by kernel_rfl) (by kernel_rfl) ?_
 rintro ⟨a0,b0,⟨⟩⟩ K ⟨r,h,hK⟩
 change ZdB a0 b0=some r at h
 unfold ZdB at h
 conv=>whnf
 refine Ya ?_
 refine ZC h (fun h=>?_) (fun h=>?_)
 conv=>whnf
 refine Yu h ?_
 rintro I0 μ0 ⟨i0,⟨⟩⟩ zs0 h hI0 hR0
 change Zd7 a0 b0 i0=some zs0 at h
 unfold Zd7 at h
 conv=>whnf
 refine ZC h (fun h=>?_) (fun h=>?_)
 conv=>whnf
 refine ⟨by kernel_rfl,?_⟩
 conv=>whnf
 refine vAt h (fun x0 he1a he1b he1x h=>?_)
 conv=>whnf
 refine vAt h (fun x1 he2a he2b he2x h=>?_)
 conv=>whnf
 refine Zl h (fun eqWire0 hb3 h=>?_)
 conv=>whnf
 refine ⟨trivial,?_⟩
 conv=>whnf
 refine Ya ?_
 refine YN h (fun h=>?_) (fun h=>?_)
 conv=>whnf
 cases h
 exact ⟨⟨rfl,rfl⟩,hI0 _ rfl⟩
 conv=>whnf
 cases h
 obtain rfl:=hR0 _ rfl
 exact hK
 conv=>whnf
 cases h
 obtain rfl:=hR0 _ rfl
 exact hK
 conv=>whnf
 cases h
 exact hK
theorem ZCR (q0:Zc Tryz.prog 231 ZAV):Zc Tryz.prog 172 ZzD:=by
 refine Zf YO (Ze q0 Zj) mixed {loops:=[(0,[.reg 1 (.dat (.int .i64)),.reg 5 (.dat (.int .i64)),.ent 0 (nat_lit 235) (Dp.pair (Dp.flat (Ty.int IntKind.i64)) (Dp.pair (Dp.flat (Ty.int IntKind.i64)) (Dp.pair (Dp.flat (Ty.int IntKind.i64)) (Dp.pair (Dp.flat (Ty.int IntKind.i64)) (Dp.pair (Dp.ol (290:Go.TypeId) Ze9) (Dp.pair (Dp.ol (290:Go.TypeId) Ze9) (Dp.flat Ty.unit)))))))])]} (fn:=Tryz.f172) Tryz.func172 (by kernel_rfl) (by kernel_rfl) ?_
 rintro ⟨a0,k0,⟨⟩⟩ K ⟨r,h,hK⟩
 change ZcD a0 k0=some r at h
 unfold ZcD at h
 conv=>whnf
 intro fp0
 conv=>whnf
 refine Yu h ?_
 rintro I1 μ1 ⟨k1,i0,l0,⟨⟩⟩ zs1 h hI1 hR1
 change JD k1 i0 l0=some zs1 at h
 unfold JD at h
 conv=>whnf
 intro fp2
 conv=>whnf
 refine ZC h (fun h=>?_) (fun h=>?_)
 conv=>whnf
 refine vAt h (fun x0 he3a he3b he3x h=>?_)
 conv=>whnf
 refine ⟨he3a,he3b,Zv he3x ?_⟩
 conv=>whnf
 intro fp4
 conv=>whnf
 intro fp5
 conv=>whnf
 intro fp6
 conv=>whnf
 refine ⟨he3a,he3b,Zv he3x ?_⟩
 conv=>whnf
 refine .inl ⟨rfl,?_⟩
 conv=>whnf
 refine ⟨he3a,he3b,Zv he3x ?_⟩
 conv=>whnf
 refine .inl ⟨rfl,?_⟩
 conv=>whnf
 refine ⟨he3a,he3b,Zv he3x ?_⟩
 conv=>whnf
 refine .inl ⟨rfl,?_⟩
 conv=>whnf
 refine ⟨he3a,he3b,Zv he3x ?_⟩
 conv=>whnf
 refine .inl ⟨rfl,?_⟩
 conv=>whnf
 refine Zl h (fun markTableS0 hb7 h=>?_)
 conv=>whnf
 intro fp8
 conv=>whnf
 refine ⟨he3a,he3b,Zv he3x ?_⟩
 conv=>whnf
 refine .inl ⟨rfl,?_⟩
 conv=>whnf
 refine Zl h (fun markTableS1 hb9 h=>?_)
 conv=>whnf
 intro fp10
 conv=>whnf
 cases h
 exact ⟨⟨rfl,rfl⟩,hI1 _ rfl⟩
 conv=>whnf
 cases h
 obtain rfl:=hR1 _ rfl
 exact hK
theorem ZFk (q0:Zc Tryz.prog 46 ZAY) (q1:Zc Tryz.prog 47 ZAd) (q2:Zc Tryz.prog 48 Zz6):Zc Tryz.prog 14 Zz2:=by
 refine Zf YO (Ze q0 (Ze q1 (Ze q2 Zj))) mixed {} (fn:=Tryz.f14) Tryz.func14 (by kernel_rfl) (by kernel_rfl) ?_
 rintro ⟨a0,k0,⟨⟩⟩ K ⟨r,h,hK⟩
 change Zby a0 k0=some r at h
 unfold Zby at h
 conv=>whnf
 intro fp0
 conv=>whnf
 intro fp1
 conv=>whnf
 intro fp2
 conv=>whnf
 refine Zl h (fun markLibrary0 hb3 h=>?_)
 conv=>whnf
 intro fp4
 conv=>whnf
 refine Zl h (fun markDesign0 hb5 h=>?_)
 conv=>whnf
 intro fp6
 conv=>whnf
 refine Zl h (fun markWireS0 hb7 h=>?_)
 conv=>whnf
 intro fp8
 conv=>whnf
 cases h
 exact hK
theorem ZCN (q0:Zc Tryz.prog 102 ZAC) (q1:Zc Tryz.prog 103 ZBg) (q2:Zc Tryz.prog 104 ZBz):Zc Tryz.prog 47 ZAd:=by
 refine Zf YO (Ze q0 (Ze q1 (Ze q2 Zj))) mixed {} (fn:=Tryz.f47) Tryz.func47 (by kernel_rfl) (by kernel_rfl) ?_
 rintro ⟨a0,k0,⟨⟩⟩ K ⟨r,h,hK⟩
 change ZaR a0 k0=some r at h
 unfold ZaR at h
 conv=>whnf
 intro fp0
 conv=>whnf
 refine Zl h (fun markInstanceS0 hb1 h=>?_)
 conv=>whnf
 intro fp2
 conv=>whnf
 refine Zl h (fun markStringS0 hb3 h=>?_)
 conv=>whnf
 refine Zl h (fun markPortS0 hb4 h=>?_)
 conv=>whnf
 cases h
 exact hK
theorem ZCS (q0:Zc Tryz.prog 69 ZzZ):Zc Tryz.prog 25 ZAi:=by
 refine Zf YO (Ze q0 Zj) mixed {} (fn:=Tryz.f25) Tryz.func25 (by kernel_rfl) (by kernel_rfl) ?_
 rintro ⟨a0,k0,⟨⟩⟩ K ⟨r,h,hK⟩
 change Zcp a0 k0=some r at h
 unfold Zcp at h
 conv=>whnf
 refine Zl h (fun markWire0 hb0 h=>?_)
 conv=>whnf
 cases h
 exact hK
theorem ZEt (q1:Zc Tryz.prog 49 ZxJ) (q0:Zc Tryz.prog 31 Zxo):Zc Tryz.prog 102 ZAC:=by
 refine Zf YO (Ze q1 (Ze q0 Zj)) mixed {loops:=[(0,[.reg 1 (.dat (.int .i64)),.reg 5 (.dat (.int .i64)),.ent 0 (nat_lit 169) (Dp.pair (Dp.flat Ty.str) (Dp.pair (Dp.flat (Ty.int IntKind.i64)) (Dp.pair (Dp.ol (2:Go.TypeId) (Dp.flat (Ty.int IntKind.i64))) (Dp.flat Ty.unit))))])]} (fn:=Tryz.f102) Tryz.func102 (by kernel_rfl) (by kernel_rfl) ?_
 rintro ⟨a0,k0,⟨⟩⟩ K ⟨r,h,hK⟩
 change VA a0 k0=some r at h
 unfold VA at h
 conv=>whnf
 intro fp0
 conv=>whnf
 refine Yu h ?_
 rintro I1 μ1 ⟨k1,i0,l0,⟨⟩⟩ zs1 h hI1 hR1
 change Qf k1 i0 l0=some zs1 at h
 unfold Qf at h
 conv=>whnf
 intro fp2
 conv=>whnf
 refine ZC h (fun h=>?_) (fun h=>?_)
 conv=>whnf
 refine Zl h (fun markText0 hb3 h=>?_)
 conv=>whnf
 refine vAt h (fun x0 he4a he4b he4x h=>?_)
 conv=>whnf
 refine ⟨he4a,he4b,Zv he4x ?_⟩
 conv=>whnf
 intro fp5
 conv=>whnf
 refine ⟨he4a,he4b,Zv he4x ?_⟩
 conv=>whnf
 refine .inl ⟨rfl,?_⟩
 conv=>whnf
 refine ⟨he4a,he4b,Zv he4x ?_⟩
 conv=>whnf
 refine .inl ⟨rfl,?_⟩
 conv=>whnf
 refine Zl h (fun markInt64S0 hb6 h=>?_)
 conv=>whnf
 cases h
 exact ⟨⟨rfl,rfl⟩,hI1 _ rfl⟩
 conv=>whnf
 cases h
 obtain rfl:=hR1 _ rfl
 exact hK
theorem ZEo:Zc Tryz.prog 31 Zxo:=by
 refine Zf YO Zj mixed {loops:=[(0,[.reg 1 (.dat (.int .i64)),.reg 5 (.dat (.int .i64)),.ent 0 (nat_lit 2) (.flat (Ty.int IntKind.i64))])]} (fn:=Tryz.f31) Tryz.func31 (by kernel_rfl) (by kernel_rfl) ?_
 rintro ⟨a0,k0,⟨⟩⟩ K ⟨r,h,hK⟩
 change Yg a0 k0=some r at h
 unfold Yg at h
 conv=>whnf
 refine Yu h ?_
 rintro I0 μ0 ⟨k1,i0,l0,⟨⟩⟩ zs0 h hI0 hR0
 change Xu k1 i0 l0=some zs0 at h
 unfold Xu at h
 conv=>whnf
 refine ZC h (fun h=>?_) (fun h=>?_)
 conv=>whnf
 refine vAt h (fun x0 he1a he1b he1x h=>?_)
 conv=>whnf
 refine ⟨by kernel_rfl,?_⟩
 conv=>whnf
 refine ⟨by decide,?_⟩
 conv=>whnf
 refine ⟨he1a,he1b,Zv he1x ?_⟩
 conv=>whnf
 cases h
 exact ⟨⟨rfl,rfl⟩,hI0 _ rfl⟩
 conv=>whnf
 cases h
 obtain rfl:=hR0 _ rfl
 exact hK
theorem ZE6 (q0:Zc Tryz.prog 49 ZxJ):Zc Tryz.prog 103 ZBg:=by
 refine Zf YO (Ze q0 Zj) mixed {loops:=[(0,[.reg 1 (.dat (.int .i64)),.reg 5 (.dat (.int .i64)),.ent 0 (nat_lit 9) (.flat Ty.str)])]} (fn:=Tryz.f103) Tryz.func103 (by kernel_rfl) (by kernel_rfl) ?_
 rintro ⟨a0,k0,⟨⟩⟩ K ⟨r,h,hK⟩
 change J6 a0 k0=some r at h
 unfold J6 at h
 conv=>whnf
 refine Yu h ?_
 rintro I0 μ0 ⟨k1,i0,l0,⟨⟩⟩ zs0 h hI0 hR0
 change Q7 k1 i0 l0=some zs0 at h
 unfold Q7 at h
 conv=>whnf
 refine ZC h (fun h=>?_) (fun h=>?_)
 conv=>whnf
 refine Zl h (fun markText0 hb1 h=>?_)
 conv=>whnf
 refine vAt h (fun x0 he2a he2b he2x h=>?_)
 conv=>whnf
 refine ⟨by kernel_rfl,?_⟩
 conv=>whnf
 refine ⟨by decide,?_⟩
 conv=>whnf
 refine ⟨he2a,he2b,Zv he2x ?_⟩
 conv=>whnf
 cases h
 exact ⟨⟨rfl,rfl⟩,hI0 _ rfl⟩
 conv=>whnf
 cases h
 obtain rfl:=hR0 _ rfl
 exact hK
theorem ZDU:Zc Tryz.prog 49 ZxJ:=by
 refine Zf Zq Zj mixed {loops:=[(0,[.reg 0 (.dat (.int .i64)),.reg 3 (.dat (.str))])]} (fn:=Tryz.f49) Tryz.func49 (by kernel_rfl) (by kernel_rfl) ?_
 rintro ⟨k0,⟨⟩⟩ K ⟨r,h,hK⟩
 change Qv k0=some r at h
 unfold Qv at h
 conv=>whnf
 refine ZC h (fun h=>?_) (fun h=>?_)
 conv=>whnf
 cases h
 exact hK
 conv=>whnf
 refine Yu h ?_
 rintro I0 μ0 ⟨k1,out0,⟨⟩⟩ zs0 h hI0 hR0
 change JO k1 out0=some zs0 at h
 unfold JO at h
 conv=>whnf
 refine ZC h (fun h=>?_) (fun h=>?_)
 conv=>whnf
 refine ⟨by decide,?_⟩
 conv=>whnf
 refine YU h (fun hp1 h=>?_)
 conv=>whnf
 refine ⟨by decide,?_⟩
 conv=>whnf
 cases h
 exact ⟨⟨rfl,rfl⟩,hI0 _ rfl⟩
 conv=>whnf
 refine YU h (fun hp2 h=>?_)
 conv=>whnf
 cases h
 obtain rfl:=hR0 _ rfl
 exact hK
theorem w21:Zc Tryz.prog 55 c21:=by
 refine Zf Zq Zj mixed {} (fn:=Tryz.f55) Tryz.func55 (by kernel_rfl) (by kernel_rfl) ?_
 rintro ⟨a0,left0,⟨⟩⟩ K ⟨r,h,hK⟩
 change Zaj a0 left0=some r at h
 unfold Zaj at h
 conv=>whnf
 refine ZC h (fun h=>?_) (fun h=>?_)
 conv=>whnf
 cases h
 exact hK
 conv=>whnf
 cases h
 exact hK
theorem w37 (q0:Zc Tryz.prog 154 c36):Zc Tryz.prog 90 c37:=by
 refine Zf Zq (Ze q0 Zj) mixed {loops:=[(0,[.reg 4 (.dat (.int .i64)),.ent 0 (nat_lit 201) (.flat Zyq.ety)])]} (fn:=Tryz.f90) Tryz.func90 (by kernel_rfl) (by kernel_rfl) ?_
 rintro ⟨a0,⟨⟩⟩ K ⟨r,h,hK⟩
 change ZdH a0=some r at h
 unfold ZdH at h
 conv=>whnf
 refine YU h (fun hp0 h=>?_)
 conv=>whnf
 refine YU h (fun hp1 h=>?_)
 conv=>whnf
 refine YU h (fun hp2 h=>?_)
 conv=>whnf
 refine YU h (fun hp3 h=>?_)
 conv=>whnf
 refine Yu h ?_
 rintro I4 μ4 ⟨i0,l0,⟨⟩⟩ zs4 h hI4 hR4
 change ZdQ a0 i0 l0=some zs4 at h
 unfold ZdQ at h
 conv=>whnf
 refine ZC h (fun h=>?_) (fun h=>?_)
 conv=>whnf
 refine vAt h (fun x0 he5a he5b he5x h=>?_)
 conv=>whnf
 refine Zl h (fun toPort0 hb6 h=>?_)
 conv=>whnf
 refine vAt h (fun x1 he7a he7b he7x h=>?_)
 conv=>whnf
 refine ⟨by kernel_rfl,?_⟩
 conv=>whnf
 refine ⟨by decide,?_⟩
 conv=>whnf
 refine ⟨he7a,he7b,Zv he7x ?_⟩
 conv=>whnf
 cases h
 exact ⟨⟨rfl,rfl⟩,hI4 _ rfl⟩
 conv=>whnf
 cases h
 obtain rfl:=hR4 _ rfl
 exact hK
theorem w35:Zc Tryz.prog 89 c35:=by
 refine Zf Zq Zj mixed {loops:=[(0,[.reg 4 (.dat (.int .i64)),.ent 0 (nat_lit 9) (.flat ZyA.ety)])]} (fn:=Tryz.f89) Tryz.func89 (by kernel_rfl) (by kernel_rfl) ?_
 rintro ⟨a0,⟨⟩⟩ K ⟨r,h,hK⟩
 change ZbJ a0=some r at h
 unfold ZbJ at h
 conv=>whnf
 refine YU h (fun hp0 h=>?_)
 conv=>whnf
 refine YU h (fun hp1 h=>?_)
 conv=>whnf
 refine YU h (fun hp2 h=>?_)
 conv=>whnf
 refine YU h (fun hp3 h=>?_)
 conv=>whnf
 refine Yu h ?_
 rintro I4 μ4 ⟨i0,l0,⟨⟩⟩ zs4 h hI4 hR4
 change ZcX a0 i0 l0=some zs4 at h
 unfold ZcX at h
 conv=>whnf
 refine ZC h (fun h=>?_) (fun h=>?_)
 conv=>whnf
 refine vAt h (fun x0 he5a he5b he5x h=>?_)
 conv=>whnf
 refine vAt h (fun x1 he6a he6b he6x h=>?_)
 conv=>whnf
 refine ⟨by kernel_rfl,?_⟩
 conv=>whnf
 refine ⟨by decide,?_⟩
 conv=>whnf
 refine ⟨he6a,he6b,Zv he6x ?_⟩
 conv=>whnf
 cases h
 exact ⟨⟨rfl,rfl⟩,hI4 _ rfl⟩
 conv=>whnf
 cases h
 obtain rfl:=hR4 _ rfl
 exact hK
theorem ZD0:Zc Tryz.prog 184 Zxu:=by
 refine Zf Zq Zj mixed {} (fn:=Tryz.f184) Tryz.func184 (by kernel_rfl) (by kernel_rfl) ?_
 rintro ⟨s0,⟨⟩⟩ K ⟨r,h,hK⟩
 change ZK s0=some r at h
 unfold ZK at h
 conv=>whnf
 refine ⟨fun hd=>?_,?_⟩
 have h:=Ztw (T:=(some ([]:List Int))) h (by simp [hd,Zp])
 conv=>whnf
 cases h
 exact hK
 conv=>whnf
 refine YU h (fun hp0 h=>?_)
 conv=>whnf
 cases h
 exact hK
theorem ZDn (q0:Zc Tryz.prog 279 c143):Zc Tryz.prog 247 ZAu:=by
 refine Zf Zq (Ze q0 Zj) mixed {} (fn:=Tryz.f247) Tryz.func247 (by kernel_rfl) (by kernel_rfl) ?_
 rintro ⟨s0,f0,⟨⟩⟩ K ⟨r,h,hK⟩
 change ZF s0 f0=some r at h
 unfold ZF at h
 conv=>whnf
 refine Zl h (fun c1_0 hb0 h=>?_)
 conv=>whnf
 cases h
 exact hK
theorem ZE5 (q0:Zc Tryz.prog 249 ZAD):Zc Tryz.prog 207 c148:=by
 refine Zf Zq (Ze q0 Zj) mixed {} (fn:=Tryz.f207) Tryz.func207 (by kernel_rfl) (by kernel_rfl) ?_
 rintro ⟨s0,f0,⟨⟩⟩ K ⟨r,h,hK⟩
 change ZY s0 f0=some r at h
 unfold ZY at h
 conv=>whnf
 refine Zl h (fun c1_0 hb0 h=>?_)
 conv=>whnf
 cases h
 exact hK
theorem ZDc (q0:Zc Tryz.prog 302 c127):Zc Tryz.prog 317 ZzF:=by
 refine Zf Zq (Ze q0 Zj) mixed {loops:=[(0,[.reg 8 (.dat (.int .i64))])]} (fn:=Tryz.f317) Tryz.func317 (by kernel_rfl) (by kernel_rfl) ?_
 rintro ⟨s0,f0,⟨⟩⟩ K ⟨r,h,hK⟩
 change ZG s0 f0=some r at h
 unfold ZG at h
 conv=>whnf
 refine Yu h ?_
 rintro I0 μ0 ⟨v0,⟨⟩⟩ zs0 h hI0 hR0
 change ZL s0 f0 v0=some zs0 at h
 unfold ZL at h
 conv=>whnf
 refine ZC h (fun h=>?_) (fun h=>?_)
 conv=>whnf
 refine vAt h (fun x0 he1a he1b he1x h=>?_)
 conv=>whnf
 refine Zl h (fun c1_0 hb2 h=>?_)
 conv=>whnf
 refine YN h (fun h=>?_) (fun h=>?_)
 conv=>whnf
 cases h
 obtain rfl:=hR0 _ rfl
 exact hK
 conv=>whnf
 cases h
 exact ⟨⟨rfl,rfl⟩,hI0 _ rfl⟩
 conv=>whnf
 cases h
 obtain rfl:=hR0 _ rfl
 exact hK
theorem w51 (q0:Zc Tryz.prog 322 c50) (q1:Zc Tryz.prog 144 c48):Zc Tryz.prog 312 c51:=by
 refine Zf Zq (Ze q0 (Ze q1 Zj)) mixed {loops:=[(0,[.reg 3 (.dat (.int .i64))])]} (fn:=Tryz.f312) Tryz.func312 (by kernel_rfl) (by kernel_rfl) ?_
 rintro ⟨t0,⟨⟩⟩ K ⟨r,h,hK⟩
 change ZdN t0=some r at h
 unfold ZdN at h
 conv=>whnf
 refine Zl h (fun l02Axis0 hb0 h=>?_)
 conv=>whnf
 refine Zel ?_
 refine YN h (fun h=>?_) (fun h=>?_)
 conv=>whnf
 refine Zl h (fun l02Axis1 hb1 h=>?_)
 conv=>whnf
 refine Zel ?_
 refine YN h (fun h=>?_) (fun h=>?_)
 conv=>whnf
 refine Ya ?_
 refine ZC h (fun h=>?_) (fun h=>?_)
 conv=>whnf
 refine Yu h ?_
 rintro I2 μ2 ⟨i0,⟨⟩⟩ zs2 h hI2 hR2
 change Zay t0 i0=some zs2 at h
 unfold Zay at h
 conv=>whnf
 refine ZC h (fun h=>?_) (fun h=>?_)
 conv=>whnf
 refine vAt h (fun x0 he3a he3b he3x h=>?_)
 conv=>whnf
 refine Zl h (fun l01In0 hb4 h=>?_)
 conv=>whnf
 refine Ya ?_
 refine YN h (fun h=>?_) (fun h=>?_)
 conv=>whnf
 cases h
 exact ⟨⟨rfl,rfl⟩,hI2 _ rfl⟩
 conv=>whnf
 cases h
 obtain rfl:=hR2 _ rfl
 exact hK
 conv=>whnf
 cases h
 obtain rfl:=hR2 _ rfl
 exact hK
 conv=>whnf
 cases h
 exact hK
 conv=>whnf
 cases h
 exact hK
 conv=>whnf
 cases h
 exact hK
theorem w99 (q1:Zc Tryz.prog 56 c75) (q2:Zc Tryz.prog 57 c80) (q0:Zc Tryz.prog 58 c98):Zc Tryz.prog 19 c99:=by
 refine Zf Zq (Ze q1 (Ze q2 (Ze q0 Zj))) mixed {} (fn:=Tryz.f19) Tryz.func19 (by kernel_rfl) (by kernel_rfl) ?_
 rintro ⟨b0,e0,t0,⟨⟩⟩ K ⟨r,h,hK⟩
 change Zag b0 e0 t0=some r at h
 unfold Zag at h
 conv=>whnf
 refine Zl h (fun EditCode0 hb0 h=>?_)
 conv=>whnf
 refine Ya ?_
 refine ZC h (fun h=>?_) (fun h=>?_)
 conv=>whnf
 refine Zl h (fun IsTiming0 hb1 h=>?_)
 conv=>whnf
 refine Ya ?_
 refine YN h (fun h=>?_) (fun h=>?_)
 conv=>whnf
 refine Zl h (fun l32Timing0 hb2 h=>?_)
 conv=>whnf
 cases h
 exact hK
 conv=>whnf
 cases h
 exact hK
 conv=>whnf
 cases h
 exact hK
theorem w86 (q0:Zc Tryz.prog 146 c81):Zc Tryz.prog 84 c86:=by
 refine Zf YO (Ze q0 Zj) mixed {loops:=[(0,[.reg 4 (.dat (.int .i64)),.cello 1003 0 (.ol 169 (Zb4))])],draws:=[(1,[0,0,2,7,0,0,32,127,255,0,1023],.op 1 (.op 2 (.op 5 (.ld 6 (.alt 0 (.alt 3 (.alt 4 (.alt 7 (.op 8 (.alt 9 (.alt 10 (.done) (.done)) (.done))) (.alt 9 (.alt 7 (.op 8 (.alt 10 (.done) (.done))) (.done)) (.done))) (.alt 9 (.alt 4 (.alt 7 (.op 8 (.alt 10 (.done) (.done))) (.done)) (.done)) (.done))) (.alt 4 (.alt 3 (.alt 7 (.op 8 (.alt 9 (.alt 10 (.done) (.done)) (.done))) (.alt 9 (.alt 7 (.op 8 (.alt 10 (.done) (.done))) (.done)) (.done))) (.alt 9 (.alt 3 (.alt 7 (.op 8 (.alt 10 (.done) (.done))) (.done)) (.done)) (.done))) (.alt 9 (.alt 3 (.alt 4 (.alt 7 (.op 8 (.alt 10 (.done) (.done))) (.done)) (.done)) (.alt 4 (.alt 3 (.alt 7 (.op 8 (.alt 10 (.done) (.done))) (.done)) (.done)) (.done))) (.done)))) (.alt 4 (.alt 0 (.alt 3 (.alt 7 (.op 8 (.alt 9 (.alt 10 (.done) (.done)) (.done))) (.alt 9 (.alt 7 (.op 8 (.alt 10 (.done) (.done))) (.done)) (.done))) (.alt 9 (.alt 3 (.alt 7 (.op 8 (.alt 10 (.done) (.done))) (.done)) (.done)) (.done))) (.alt 9 (.alt 0 (.alt 3 (.alt 7 (.op 8 (.alt 10 (.done) (.done))) (.done)) (.done)) (.done)) (.done))) (.alt 9 (.alt 0 (.alt 3 (.alt 4 (.alt 7 (.op 8 (.alt 10 (.done) (.done))) (.done)) (.done)) (.alt 4 (.alt 3 (.alt 7 (.op 8 (.alt 10 (.done) (.done))) (.done)) (.done)) (.done))) (.alt 4 (.alt 0 (.alt 3 (.alt 7 (.op 8 (.alt 10 (.done) (.done))) (.done)) (.done)) (.done)) (.done))) (.done))))))))]} (fn:=Tryz.f84) Tryz.func84 (by kernel_rfl) (by kernel_rfl) ?_
 rintro ⟨d0,⟨⟩⟩ K ⟨r,h,hK⟩
 change Zeu d0=some r at h
 unfold Zeu at h
 focus
  conv=>whnf
  refine ⟨by kernel_rfl,?_⟩
  conv=>whnf
  refine ⟨by kernel_rfl,?_⟩
  conv=>whnf
  obtain ⟨hp0,h⟩:=guardE h
  obtain ⟨hp1,h⟩:=guardE h
  refine ⟨?_,?_⟩
  rotate_left
  focus
   conv=>whnf
   refine ⟨?_,?_⟩
   rotate_left
   focus
    conv=>whnf
    refine ⟨?_,?_⟩
    rotate_left
    focus
     conv=>whnf
     refine ⟨by kernel_rfl,?_⟩
     conv=>whnf
     refine ⟨hp0,?_⟩
     conv=>whnf
     refine ⟨by kernel_rfl,?_⟩
     conv=>whnf
     refine ⟨hp1,?_⟩
     conv=>whnf
     refine ⟨trivial,?_⟩
    rotate_right
    focus
     conv=>whnf
     refine ⟨?_,?_⟩
     rotate_left
     focus
      conv=>whnf
      refine ⟨by kernel_rfl,?_⟩
      conv=>whnf
      refine ⟨hp0,?_⟩
      conv=>whnf
      refine ⟨by kernel_rfl,?_⟩
      conv=>whnf
      refine ⟨hp1,?_⟩
      conv=>whnf
      refine ⟨trivial,?_⟩
     rotate_right
     focus
      conv=>whnf
      refine ⟨by kernel_rfl,?_⟩
      conv=>whnf
      refine ⟨hp0,?_⟩
      conv=>whnf
      refine ⟨by kernel_rfl,?_⟩
      conv=>whnf
      refine ⟨hp1,?_⟩
      conv=>whnf
      refine ⟨trivial,?_⟩
   rotate_right
   focus
    conv=>whnf
    refine ⟨?_,?_⟩
    rotate_left
    focus
     conv=>whnf
     refine ⟨by kernel_rfl,?_⟩
     conv=>whnf
     refine ⟨hp0,?_⟩
     conv=>whnf
     refine ⟨by kernel_rfl,?_⟩
     conv=>whnf
     refine ⟨hp1,?_⟩
     conv=>whnf
     refine ⟨trivial,?_⟩
    rotate_right
    focus
     conv=>whnf
     refine ⟨?_,?_⟩
     rotate_left
     focus
      conv=>whnf
      refine ⟨by kernel_rfl,?_⟩
      conv=>whnf
      refine ⟨hp0,?_⟩
      conv=>whnf
      refine ⟨by kernel_rfl,?_⟩
      conv=>whnf
      refine ⟨hp1,?_⟩
      conv=>whnf
      refine ⟨trivial,?_⟩
     rotate_right
     focus
      conv=>whnf
      refine ⟨by kernel_rfl,?_⟩
      conv=>whnf
      refine ⟨hp0,?_⟩
      conv=>whnf
      refine ⟨?_,?_⟩
      rotate_left
      focus
       conv=>whnf
       refine ⟨by kernel_rfl,?_⟩
       conv=>whnf
       refine ⟨hp1,?_⟩
       conv=>whnf
       refine ⟨trivial,?_⟩
      rotate_right
      focus
       conv=>whnf
       refine ⟨by kernel_rfl,?_⟩
       conv=>whnf
       refine ⟨hp1,?_⟩
       conv=>whnf
       refine ⟨trivial,?_⟩
  rotate_right
  focus
   conv=>whnf
   refine ⟨?_,?_⟩
   rotate_left
   focus
    conv=>whnf
    refine ⟨?_,?_⟩
    rotate_left
    focus
     conv=>whnf
     refine ⟨?_,?_⟩
     rotate_left
     focus
      conv=>whnf
      refine ⟨by kernel_rfl,?_⟩
      conv=>whnf
      refine ⟨hp0,?_⟩
      conv=>whnf
      refine ⟨by kernel_rfl,?_⟩
      conv=>whnf
      refine ⟨hp1,?_⟩
      conv=>whnf
      refine ⟨trivial,?_⟩
     rotate_right
     focus
      conv=>whnf
      refine ⟨by kernel_rfl,?_⟩
      conv=>whnf
      refine ⟨hp0,?_⟩
      conv=>whnf
      refine ⟨by kernel_rfl,?_⟩
      conv=>whnf
      refine ⟨hp1,?_⟩
      conv=>whnf
      refine ⟨trivial,?_⟩
    rotate_right
    focus
     conv=>whnf
     refine ⟨?_,?_⟩
     rotate_left
     focus
      conv=>whnf
      refine ⟨by kernel_rfl,?_⟩
      conv=>whnf
      refine ⟨hp0,?_⟩
      conv=>whnf
      refine ⟨by kernel_rfl,?_⟩
      conv=>whnf
      refine ⟨hp1,?_⟩
      conv=>whnf
      refine ⟨trivial,?_⟩
     rotate_right
     focus
      conv=>whnf
      refine ⟨by kernel_rfl,?_⟩
      conv=>whnf
      refine ⟨hp0,?_⟩
      conv=>whnf
      refine ⟨?_,?_⟩
      rotate_left
      focus
       conv=>whnf
       refine ⟨by kernel_rfl,?_⟩
       conv=>whnf
       refine ⟨hp1,?_⟩
       conv=>whnf
       refine ⟨trivial,?_⟩
      rotate_right
      focus
       conv=>whnf
       refine ⟨by kernel_rfl,?_⟩
       conv=>whnf
       refine ⟨hp1,?_⟩
       conv=>whnf
       refine ⟨trivial,?_⟩
   rotate_right
   focus
    conv=>whnf
    refine ⟨by kernel_rfl,?_⟩
    conv=>whnf
    refine ⟨hp0,?_⟩
    conv=>whnf
    refine ⟨?_,?_⟩
    rotate_left
    focus
     conv=>whnf
     refine ⟨by kernel_rfl,?_⟩
     conv=>whnf
     refine ⟨hp1,?_⟩
     conv=>whnf
     refine ⟨trivial,?_⟩
    rotate_right
    focus
     conv=>whnf
     refine ⟨?_,?_⟩
     rotate_left
     focus
      conv=>whnf
      refine ⟨by kernel_rfl,?_⟩
      conv=>whnf
      refine ⟨hp1,?_⟩
      conv=>whnf
      refine ⟨trivial,?_⟩
     rotate_right
     focus
      conv=>whnf
      refine ⟨by kernel_rfl,?_⟩
      conv=>whnf
      refine ⟨hp1,?_⟩
      conv=>whnf
      refine ⟨trivial,?_⟩
  all_goals
   conv=>whnf
   refine Yu h ?_
   rintro I2 μ2 ⟨i0,c0,⟨⟩⟩ zs2 h hI2 hR2
   change Jq d0 i0 c0=some zs2 at h
   unfold Jq at h
   conv=>whnf
   intro fp3
   conv=>whnf
   refine ZC h (fun h=>?_) (fun h=>?_)
   conv=>whnf
   refine vAt h (fun x0 he4a he4b he4x h=>?_)
   conv=>whnf
   refine Zl h (fun l02Ints0 hb5 h=>?_)
   conv=>whnf
   intro fp6
   conv=>whnf
   refine YU h (fun hp7 h=>?_)
   conv=>whnf
   intro fp8
   conv=>whnf
   cases h
   exact ⟨⟨rfl,rfl⟩,hI2 _ rfl⟩
   conv=>whnf
   cases h
   obtain rfl:=hR2 _ rfl
   exact hK
theorem w72:Zc Tryz.prog 234 c72:=by
 refine Zf Zq Zj mixed {} (fn:=Tryz.f234) Tryz.func234 (by kernel_rfl) (by kernel_rfl) ?_
 rintro ⟨w0,⟨⟩⟩ K ⟨r,h,hK⟩
 change Zfg w0=some r at h
 unfold Zfg at h
 conv=>whnf
 refine ZC h (fun h=>?_) (fun h=>?_)
 conv=>whnf
 refine vAt h (fun x0 he0a he0b he0x h=>?_)
 conv=>whnf
 cases h
 exact hK
 conv=>whnf
 cases h
 exact hK
theorem w65:Zc Tryz.prog 110 c65:=by
 refine Zf Zq Zj mixed {} (fn:=Tryz.f110) Tryz.func110 (by kernel_rfl) (by kernel_rfl) ?_
 rintro ⟨a0,⟨⟩⟩ K ⟨r,h,hK⟩
 change Zcz a0=some r at h
 unfold Zcz at h
 conv=>whnf
 refine ZC h (fun h=>?_) (fun h=>?_)
 conv=>whnf
 refine ZC h (fun h=>?_) (fun h=>?_)
 conv=>whnf
 refine ZC h (fun h=>?_) (fun h=>?_)
 conv=>whnf
 refine ZC h (fun h=>?_) (fun h=>?_)
 conv=>whnf
 cases h
 exact hK
 conv=>whnf
 cases h
 exact hK
 conv=>whnf
 cases h
 exact hK
 conv=>whnf
 cases h
 exact hK
 conv=>whnf
 refine ZC h (fun h=>?_) (fun h=>?_)
 conv=>whnf
 refine ZC h (fun h=>?_) (fun h=>?_)
 conv=>whnf
 refine ZC h (fun h=>?_) (fun h=>?_)
 conv=>whnf
 cases h
 exact hK
 conv=>whnf
 cases h
 exact hK
 conv=>whnf
 cases h
 exact hK
 conv=>whnf
 refine ZC h (fun h=>?_) (fun h=>?_)
 conv=>whnf
 refine ZC h (fun h=>?_) (fun h=>?_)
 conv=>whnf
 refine ZC h (fun h=>?_) (fun h=>?_)
 conv=>whnf
 refine ZC h (fun h=>?_) (fun h=>?_)
 conv=>whnf
 refine ZC h (fun h=>?_) (fun h=>?_)
 conv=>whnf
 refine ZC h (fun h=>?_) (fun h=>?_)
 conv=>whnf
 cases h
 exact hK
 conv=>whnf
 cases h
 exact hK
 conv=>whnf
 cases h
 exact hK
 conv=>whnf
 cases h
 exact hK
 conv=>whnf
 cases h
 exact hK
 conv=>whnf
 cases h
 exact hK
 conv=>whnf
 refine ZC h (fun h=>?_) (fun h=>?_)
 conv=>whnf
 refine ZC h (fun h=>?_) (fun h=>?_)
 conv=>whnf
 refine ZC h (fun h=>?_) (fun h=>?_)
 conv=>whnf
 cases h
 exact hK
 conv=>whnf
 cases h
 exact hK
 conv=>whnf
 cases h
 exact hK
 conv=>whnf
 refine ZC h (fun h=>?_) (fun h=>?_)
 conv=>whnf
 refine ZC h (fun h=>?_) (fun h=>?_)
 conv=>whnf
 refine ZC h (fun h=>?_) (fun h=>?_)
 conv=>whnf
 refine ZC h (fun h=>?_) (fun h=>?_)
 conv=>whnf
 cases h
 exact hK
 conv=>whnf
 cases h
 exact hK
 conv=>whnf
 cases h
 exact hK
 conv=>whnf
 cases h
 exact hK
 conv=>whnf
 cases h
 exact hK
theorem w89 (q0:Zc Tryz.prog 134 c61) (q1:Zc Tryz.prog 82 c62):Zc Tryz.prog 149 c89:=by
 refine Zf Zq (Ze q0 (Ze q1 Zj)) mixed {loops:=[(0,[.reg 4 (.dat (.int .i64)),.ent 2 (nat_lit 2) (.flat Ztl.ety)]),(2,[.reg 6 (.dat (.int .i64)),.ent 2 (nat_lit 2) (.flat Ztl.ety)])],draws:=[(9,[0,0,0,6,14,0,32,0,224,480,992,0,4064,8160,16383,32767],.op 0 (.op 1 (.op 2 (.op 3 (.op 4 (.op 5 (.op 6 (.op 7 (.op 8 (.op 9 (.op 10 (.op 11 (.op 12 (.op 13 (.op 14 (.alt 15 (.done) (.done)))))))))))))))))]} (fn:=Tryz.f149) Tryz.func149 (by kernel_rfl) (by kernel_rfl) ?_
 rintro ⟨b0,⟨⟩⟩ K ⟨r,h,hK⟩
 change ZaD b0=some r at h
 unfold ZaD at h
 conv=>whnf
 refine Zl h (fun l05Places0 hb0 h=>?_)
 conv=>whnf
 refine YU h (fun hp1 h=>?_)
 conv=>whnf
 refine YU h (fun hp2 h=>?_)
 conv=>whnf
 refine YU h (fun hp3 h=>?_)
 conv=>whnf
 refine YU h (fun hp4 h=>?_)
 conv=>whnf
 refine Yu h ?_
 rintro I5 μ5 ⟨net0,l0,⟨⟩⟩ zs5 h hI5 hR5
 change JL b0 net0 l0=some zs5 at h
 unfold JL at h
 conv=>whnf
 refine ZC h (fun h=>?_) (fun h=>?_)
 conv=>whnf
 refine Zl h (fun l05Sinks0 hb6 h=>?_)
 conv=>whnf
 refine Yu h ?_
 rintro I7 μ7 ⟨i0,l1,⟨⟩⟩ zs7 h hI7 hR7
 change JG b0 net0 l05Sinks0 i0 l1=some zs7 at h
 unfold JG at h
 conv=>whnf
 refine ZC h (fun h=>?_) (fun h=>?_)
 conv=>whnf
 refine ⟨by kernel_rfl,?_⟩
 conv=>whnf
 refine vAt h (fun x0 he8a he8b he8x h=>?_)
 conv=>whnf
 refine ⟨by kernel_rfl,?_⟩
 conv=>whnf
 refine ⟨he8a,he8b,Zv he8x ?_⟩
 conv=>whnf
 refine vAt h (fun x1 he9a he9b he9x h=>?_)
 conv=>whnf
 refine vAt h (fun x2 he10a he10b he10x h=>?_)
 conv=>whnf
 refine vAt h (fun x3 he11a he11b he11x h=>?_)
 conv=>whnf
 refine ⟨by kernel_rfl,?_⟩
 conv=>whnf
 refine ⟨by decide,?_⟩
 conv=>whnf
 refine ⟨he11a,he11b,Zv he11x ?_⟩
 conv=>whnf
 refine ⟨trivial,?_⟩
 conv=>whnf
 cases h
 exact ⟨⟨rfl,rfl⟩,hI7 _ rfl⟩
 conv=>whnf
 cases h
 obtain rfl:=hR7 _ rfl
 exact ⟨⟨rfl,rfl⟩,hI5 _ rfl⟩
 conv=>whnf
 cases h
 obtain rfl:=hR5 _ rfl
 exact hK
end Go.Proofs.YtfndhpjedmopdaaGreatDoor
