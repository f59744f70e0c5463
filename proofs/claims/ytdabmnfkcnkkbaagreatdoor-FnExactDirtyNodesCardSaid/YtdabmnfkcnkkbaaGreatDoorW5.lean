/-
  The functions keep their contracts, if what they call does. Printed by program.
-/
import Derived.Test.YtdabmnfkcnkkbaaGreatDoorM
import Derived.KernelRfl
namespace Go.Proofs.YtdabmnfkcnkkbaaGreatDoor
open Go Go.Sx
set_option maxRecDepth 100000
set_option maxHeartbeats 3200000
set_option linter.unusedVariables false
set_option linter.unusedSimpArgs false
structure Ws5:Prop where
 w175:ZV Tryz.prog 59 c138→ZV Tryz.prog 105 c175
 w142:ZV Tryz.prog 138 Zwa
 w154:ZV Tryz.prog 173 Zwf→ZV Tryz.prog 144 c154
 w124:ZV Tryz.prog 143 c89→ZV Tryz.prog 201 c94→ZV Tryz.prog 202 ZvX→ZV Tryz.prog 134 c88→ZV Tryz.prog 203 Zv1→ZV Tryz.prog 162 c124
 w103:ZV Tryz.prog 261 ZvN→ZV Tryz.prog 136 Zur→ZV Tryz.prog 252 ZvO
 w164:ZV Tryz.prog 96 c160→ZV Tryz.prog 189 c164
 w151:ZV Tryz.prog 142 Zvs
 w90:ZV Tryz.prog 226 c90
 w128:ZV Tryz.prog 97 Ztq
 w202:ZV Tryz.prog 29 c193→ZV Tryz.prog 30 ZwD→ZV Tryz.prog 31 c201→ZV Tryz.prog 11 ZwE
 w192:ZV Tryz.prog 108 Zwz→ZV Tryz.prog 61 ZwA
 w194:ZV Tryz.prog 10 Ztr→ZV Tryz.prog 109 c194
 w186:ZV Tryz.prog 193 Zwt→ZV Tryz.prog 153 Zwu
 w200:ZV Tryz.prog 10 Ztr→ZV Tryz.prog 32 Zvu
 w10:ZV Tryz.prog 41 c2→ZV Tryz.prog 70 c10
 w25:ZV Tryz.prog 200 c24→ZV Tryz.prog 161 c25
 w29:ZV Tryz.prog 50 c28→ZV Tryz.prog 23 c29
 w32:ZV Tryz.prog 52 c32
 w24:ZV Tryz.prog 225 c23→ZV Tryz.prog 200 c24
 w36:ZV Tryz.prog 54 c22→ZV Tryz.prog 26 c36
 w92:ZV Tryz.prog 175 c91→ZV Tryz.prog 204 c92
 w116:ZV Tryz.prog 229 ZvW→ZV Tryz.prog 244 c116
 w153:ZV Tryz.prog 174 c152→ZV Tryz.prog 173 Zwf
 w98:ZV Tryz.prog 167 c97→ZV Tryz.prog 205 c98
 w104:ZV Tryz.prog 253 ZvP
 w62:ZV Tryz.prog 79 c62
 w50:ZV Tryz.prog 158 c49→ZV Tryz.prog 116 c50
 w44:ZV Tryz.prog 259 c43→ZV Tryz.prog 75 c41→ZV Tryz.prog 249 c44
 w64:ZV Tryz.prog 119 c63→ZV Tryz.prog 80 c64
 w40:ZV Tryz.prog 78 c40
 w52:ZV Tryz.prog 78 c40→ZV Tryz.prog 118 c52
 w75:ZV Tryz.prog 123 c70→ZV Tryz.prog 122 c75
 w66:ZV Tryz.prog 77 c61→ZV Tryz.prog 74 c55→ZV Tryz.prog 120 c65→ZV Tryz.prog 81 c66
 w59:ZV Tryz.prog 47 c54→ZV Tryz.prog 75 c41→ZV Tryz.prog 44 c59
set_option maxHeartbeats 100000000 in
theorem ws5:Ws5:=by
 refine ⟨(fun q0=>Z0 Xn (ZX q0 Z6) mixed {loops:=[(0,[.reg 13 (.dat (.int .i64)),.ent 4 (nat_lit 53) (Dp.pair (Dp.ol (2:Go.TypeId) (Dp.flat (Ty.int IntKind.i64))) (Dp.pair (Dp.ol (2:Go.TypeId) (Dp.flat (Ty.int IntKind.i64))) (Dp.pair (Dp.ol (2:Go.TypeId) (Dp.flat (Ty.int IntKind.i64))) (Dp.pair (Dp.ol (2:Go.TypeId) (Dp.flat (Ty.int IntKind.i64))) (Dp.flat Ty.unit)))))]),(2,[.reg 30 (.dat (.int .i64)),.ent 4 (nat_lit 53) (Dp.pair (Dp.ol (2:Go.TypeId) (Dp.flat (Ty.int IntKind.i64))) (Dp.pair (Dp.ol (2:Go.TypeId) (Dp.flat (Ty.int IntKind.i64))) (Dp.pair (Dp.ol (2:Go.TypeId) (Dp.flat (Ty.int IntKind.i64))) (Dp.pair (Dp.ol (2:Go.TypeId) (Dp.flat (Ty.int IntKind.i64))) (Dp.flat Ty.unit)))))])],draws:=[(9,[0,1,3,7,0,16,63,127],.op 0 (.op 1 (.op 2 (.op 3 (.op 4 (.op 5 (.op 6 (.op 7 (.done))))))))),(10,[0,0,2,6,14,0,0,64,0,256,960,2016,4064,8190,16383,32767,65535],.op 0 (.op 1 (.op 2 (.op 3 (.op 5 (.op 6 (.op 7 (.op 8 (.op 9 (.op 10 (.alt 4 (.alt 11 (.alt 12 (.alt 13 (.op 14 (.op 15 (.alt 16 (.done) (.done)))) (.done)) (.done)) (.done)) (.alt 11 (.alt 4 (.alt 12 (.alt 13 (.op 14 (.op 15 (.alt 16 (.done) (.done)))) (.done)) (.done)) (.alt 12 (.alt 4 (.alt 13 (.op 14 (.op 15 (.alt 16 (.done) (.done)))) (.done)) (.done)) (.done))) (.done)))))))))))))]} Tryz.func105 (hvc:=?_)),
 (Z0 Ya Z6 mixed {} Tryz.func138 (hvc:=?_)),
 (fun q0=>Z0 Ya (ZX q0 Z6) mixed {} Tryz.func144 (hvc:=?_)),
 (fun q3 q2 q1 q4 q0=>Z0 Ya (ZX q3 (ZX q2 (ZX q1 (ZX q4 (ZX q0 Z6))))) mixed {} Tryz.func162 (hvc:=?_)),
 (fun q1 q0=>Z0 Ya (ZX q1 (ZX q0 Z6)) mixed {} Tryz.func252 (hvc:=?_)),
 (fun q0=>Z0 Xn (ZX q0 Z6) mixed {loops:=[(0,[.reg 3 (.own (.ol 241 (Zds))),.reg 8 (.dat (.int .i64))])],draws:=[(5,[0,0,2,6,0,16,62,0,128,510,1022,2046,4095,8191],.op 0 (.op 1 (.op 2 (.op 4 (.op 5 (.op 7 (.op 8 (.alt 3 (.alt 6 (.alt 9 (.op 10 (.alt 11 (.alt 12 (.op 13 (.done)) (.done)) (.done))) (.done)) (.done)) (.done)))))))))]} Tryz.func189 (hvc:=?_)),
 (Z0 Ya Z6 mixed {} Tryz.func142 (hvc:=?_)),
 (Z0 Ya Z6 mixed {} Tryz.func226 (hvc:=?_)),
 (Z0 Ya Z6 mixed {} Tryz.func97 (hvc:=?_)),
 (fun q0 q1 q2=>Z0 Ya (ZX q0 (ZX q1 (ZX q2 Z6))) mixed {} Tryz.func11 (hvc:=?_)),
 (fun q0=>Z0 Ya (ZX q0 Z6) mixed {loops:=[(0,[.reg 5 (.dat (.int .i64))])],draws:=[(6,[0,0,3,7,0,0,48,112,255,511],.op 0 (.op 1 (.op 2 (.op 3 (.op 4 (.op 5 (.op 6 (.op 7 (.alt 8 (.op 9 (.done)) (.done))))))))))]} Tryz.func61 (hvc:=?_)),
 (fun q0=>Z0 Ya (ZX q0 Z6) mixed {} Tryz.func109 (hvc:=?_)),
 (fun q0=>Z0 Ya (ZX q0 Z6) mixed {loops:=[(0,[.reg 5 (.dat (.int .i64))])],draws:=[(6,[0,0,3,7,0,0,48,112,255,511],.op 0 (.op 1 (.op 2 (.op 3 (.op 4 (.op 5 (.op 6 (.op 7 (.alt 8 (.op 9 (.done)) (.done))))))))))]} Tryz.func153 (hvc:=?_)),
 (fun q0=>Z0 Ya (ZX q0 Z6) mixed {} Tryz.func32 (hvc:=?_)),
 (fun q0=>Z0 Ya (ZX q0 Z6) mixed {} Tryz.func70 (hvc:=?_)),
 (fun q0=>Z0 Xn (ZX q0 Z6) mixed {} Tryz.func161 (hvc:=?_)),
 (fun q0=>Z0 Xn (ZX q0 Z6) mixed {} Tryz.func23 (hvc:=?_)),
 (Z0 Ya Z6 mixed {loops:=[(0,[.reg 4 (.dat (.int .i64)),.ent 0 (nat_lit 9) (.flat ZvF.ety)])]} Tryz.func52 (hvc:=?_)),
 (fun q0=>Z0 Xn (ZX q0 Z6) mixed {loops:=[(0,[.reg 4 (.dat (.int .i64)),.ent 0 (nat_lit 241) Zds])]} Tryz.func200 (hvc:=?_)),
 (fun q0=>Z0 Ya (ZX q0 Z6) mixed {} Tryz.func26 (hvc:=?_)),
 (fun q0=>Z0 Ya (ZX q0 Z6) mixed {} Tryz.func204 (hvc:=?_)),
 (fun q0=>Z0 Ya (ZX q0 Z6) mixed {loops:=[(0,[.reg 8 (.dat (.int .i64))])]} Tryz.func244 (hvc:=?_)),
 (fun q0=>Z0 Ya (ZX q0 Z6) mixed {loops:=[(0,[.reg 8 (.dat (.int .i64))])]} Tryz.func173 (hvc:=?_)),
 (fun q0=>Z0 Ya (ZX q0 Z6) mixed {loops:=[(0,[.reg 8 (.dat (.int .i64))])]} Tryz.func205 (hvc:=?_)),
 (Z0 Ya Z6 mixed {loops:=[(0,[.reg 3 (.dat (.int .i64)),.reg 4 (.dat (.int .i64))])]} Tryz.func253 (hvc:=?_)),
 (Z0 Ya Z6 mixed {loops:=[(0,[.reg 5 (.dat (.int .i64))])]} Tryz.func79 (hvc:=?_)),
 (fun q0=>Z0 Ya (ZX q0 Z6) mixed {loops:=[(0,[.reg 3 (.dat (.int .i64))]),(2,[.reg 4 (.dat (.int .i64))])],draws:=[(9,[0,1,0,7,15,31,0,64,0,448,960,1984,4095],.op 0 (.op 1 (.op 2 (.op 3 (.op 4 (.op 5 (.op 6 (.op 7 (.op 8 (.op 9 (.op 10 (.op 11 (.op 12 (.done))))))))))))))]} Tryz.func116 (hvc:=?_)),
 (fun q0 q1=>Z0 Ya (ZX q0 (ZX q1 Z6)) mixed {loops:=[(0,[.reg 3 (.dat (.int .i64))])]} Tryz.func249 (hvc:=?_)),
 (fun q0=>Z0 Ya (ZX q0 Z6) mixed {} Tryz.func80 (hvc:=?_)),
 (Z0 Ya Z6 mixed {loops:=[(0,[.reg 3 (.dat (.int .i64))])]} Tryz.func78 (hvc:=?_)),
 (fun q0=>Z0 Ya (ZX q0 Z6) mixed {loops:=[(0,[.reg 3 (.dat (.int .i64))]),(2,[.reg 4 (.dat (.int .i64))])],draws:=[(9,[0,0,3,7,0,0,48,112,255],.op 0 (.op 1 (.op 2 (.op 3 (.op 4 (.op 5 (.op 6 (.op 7 (.op 8 (.done))))))))))]} Tryz.func118 (hvc:=?_)),
 (fun q0=>Z0 Xn (ZX q0 Z6) mixed {loops:=[(0,[.reg 4 (.dat (.int .i64)),.cello 1003 0 (.ol 134 (Zat))])],draws:=[(1,[0,0,2,7,0,0,32,127,255,0,1023],.op 1 (.op 2 (.op 5 (.ld 6 (.alt 0 (.alt 3 (.alt 4 (.alt 7 (.op 8 (.alt 9 (.alt 10 (.done) (.done)) (.done))) (.alt 9 (.alt 7 (.op 8 (.alt 10 (.done) (.done))) (.done)) (.done))) (.alt 9 (.alt 4 (.alt 7 (.op 8 (.alt 10 (.done) (.done))) (.done)) (.done)) (.done))) (.alt 4 (.alt 3 (.alt 7 (.op 8 (.alt 9 (.alt 10 (.done) (.done)) (.done))) (.alt 9 (.alt 7 (.op 8 (.alt 10 (.done) (.done))) (.done)) (.done))) (.alt 9 (.alt 3 (.alt 7 (.op 8 (.alt 10 (.done) (.done))) (.done)) (.done)) (.done))) (.alt 9 (.alt 3 (.alt 4 (.alt 7 (.op 8 (.alt 10 (.done) (.done))) (.done)) (.done)) (.alt 4 (.alt 3 (.alt 7 (.op 8 (.alt 10 (.done) (.done))) (.done)) (.done)) (.done))) (.done)))) (.alt 4 (.alt 0 (.alt 3 (.alt 7 (.op 8 (.alt 9 (.alt 10 (.done) (.done)) (.done))) (.alt 9 (.alt 7 (.op 8 (.alt 10 (.done) (.done))) (.done)) (.done))) (.alt 9 (.alt 3 (.alt 7 (.op 8 (.alt 10 (.done) (.done))) (.done)) (.done)) (.done))) (.alt 9 (.alt 0 (.alt 3 (.alt 7 (.op 8 (.alt 10 (.done) (.done))) (.done)) (.done)) (.done)) (.done))) (.alt 9 (.alt 0 (.alt 3 (.alt 4 (.alt 7 (.op 8 (.alt 10 (.done) (.done))) (.done)) (.done)) (.alt 4 (.alt 3 (.alt 7 (.op 8 (.alt 10 (.done) (.done))) (.done)) (.done)) (.done))) (.alt 4 (.alt 0 (.alt 3 (.alt 7 (.op 8 (.alt 10 (.done) (.done))) (.done)) (.done)) (.done)) (.done))) (.done))))))))]} Tryz.func122 (hvc:=?_)),
 (fun q0 q1 q2=>Z0 Ya (ZX q0 (ZX q1 (ZX q2 Z6))) mixed {draws:=[(6,[0,1,3,0,8,31,63,127,255,511,1023,2047,4095,8191,1023,32767,65535,131071,262143,524287,1048575,262143,4194303,8388607,262143,17039359,67108863,134217727,268435455,536870911,1073741823,2147483647,4294967295,536870911,17179869183,34359738367],.op 0 (.op 1 (.op 2 (.op 3 (.op 4 (.op 5 (.op 6 (.alt 7 (.op 8 (.op 9 (.op 10 (.op 11 (.op 12 (.op 13 (.op 14 (.op 15 (.op 16 (.op 17 (.op 18 (.op 19 (.op 20 (.op 21 (.op 22 (.op 23 (.op 24 (.op 25 (.op 26 (.op 27 (.op 28 (.op 29 (.op 30 (.op 31 (.op 32 (.op 33 (.op 34 (.op 35 (.done))))))))))))))))))))))))))))) (.done)))))))))]} Tryz.func81 (hvc:=?_)),
 (fun q0 q1=>Z0 Ya (ZX q0 (ZX q1 Z6)) mixed {draws:=[(9,[0,1,0,4,15,31,63,127,63,319,1023,2047,4095,8191,16383,8191,40959,8191,139263,499711,1023999,2072575,4169727,8364031,16777215,33554431,67108863],.op 0 (.op 1 (.op 2 (.op 3 (.alt 4 (.op 5 (.op 6 (.op 7 (.op 8 (.op 9 (.alt 10 (.op 11 (.op 12 (.op 13 (.op 14 (.op 15 (.op 16 (.op 17 (.op 18 (.op 19 (.op 20 (.op 21 (.op 22 (.op 23 (.alt 24 (.op 25 (.op 26 (.done))) (.done))))))))))))))) (.done))))))) (.done))))))]} Tryz.func44 (hvc:=?_))⟩
 all_goals
  intro a
  repeat rcases a with ⟨_,a⟩
  rintro K ⟨r,h,hK⟩
  repeat'
    conv=>whnf
    first
    | with_reducible refine Zp3 ?_
    | with_reducible refine ZdA (by assumption) (by assumption) (by assumption) ?_
    | with_reducible refine X0 (by assumption) ?_
    | with_reducible refine ZdD (by assumption) ?_
    | (with_reducible refine shD ?_);first | refine Zge h (fun h=>?_) (fun h=>?_) | refine Zpf h (fun h=>?_) (fun h=>?_)
    | (with_reducible refine Zqm ?_);first | refine ZrX ?_ | refine Zib ?_
    | (with_reducible refine Zuy ?_);first | refine Zpe h (fun h=>?_) (fun h=>?_) | refine Zqw h (fun h=>?_) (fun h=>?_)
    | (with_reducible refine Zql ?_);(refine ⟨fun hd=>?_,?_⟩)<;>try subst hd
    | (with_reducible refine ZuA ?_);first | with_reducible refine XP h (fun x hb h=>?_) | refine ZdD (by assumption) ?_ | with_reducible refine pG h (fun hp h=>?_) | with_reducible refine pA h (fun x ha hb hx h=>?_) | with_reducible refine pB h (fun x hb h=>?_) | refine XP h (fun x hb h=>?_)
    | (with_reducible refine Zux ?_);first | with_reducible refine vAt h (fun x ha hb hx h=>?_) | refine ZdA (by assumption) (by assumption) (by assumption) ?_ | with_reducible refine pG h (fun hp h=>?_) | with_reducible refine pA h (fun x ha hb hx h=>?_) | with_reducible refine pB h (fun x hb h=>?_) | refine vAt h (fun x ha hb hx h=>?_)
    | (with_reducible refine Zqk ?_);first | with_reducible refine ZkJ h (fun x hb h=>?_) | refine X0 (by assumption) ?_ | with_reducible refine pG h (fun hp h=>?_) | with_reducible refine pA h (fun x ha hb hx h=>?_) | with_reducible refine pB h (fun x hb h=>?_) | refine ZkJ h (fun x hb h=>?_)
    | with_reducible refine Zuz ?_
    | (with_reducible refine ZmW ?_);refine ZmY h hK ?_;clear h hK;intro I μ v r h hK;(repeat rcases v with ⟨_,v⟩);(try dsimp only at h)
    | with_reducible refine ⟨by assumption,?_⟩
    | with_reducible refine orL ?_
    | with_reducible refine .inr ?_
    | (with_reducible refine Zqn ?_);first | refine ⟨?_,True.intro⟩ | refine ⟨?_,?_⟩
    | refine ⟨by kernel_rfl,?_⟩
    | refine ⟨by decide,?_⟩
    | with_reducible refine ZkR h (fun hp h=>?_)
    | intro fp
    | exact trivial
    | with_reducible exact Zp0 h
    | (refine pS h (fun e=>?_));subst e;(repeat (first | exact hK | exact ⟨⟨rfl,rfl⟩,hK.1 _ rfl⟩ | (refine pR hK (fun e hK=>?_));subst e));done
    | refine ZkR h (fun hp h=>?_)
    | refine ⟨by assumption,?_⟩
    | with_reducible refine pG h (fun hp h=>?_) | with_reducible refine pA h (fun x ha hb hx h=>?_) | with_reducible refine pB h (fun x hb h=>?_)
    | refine pG h (fun hp h=>?_)
    | fail
theorem ZzB (q1:ZV Tryz.prog 27 c159) (q0:ZV Tryz.prog 28 c182):ZV Tryz.prog 9 c183:=by
 refine Z0 Ya (ZX q1 (ZX q0 Z6)) mixed {} (fn:=Tryz.f9) Tryz.func9 (by kernel_rfl) (by kernel_rfl) ?_
 rintro ⟨b0,e0,⟨⟩⟩ K ⟨r,h,hK⟩
 change Jh b0 e0=some r at h
 unfold Jh at h
 conv=>whnf
 refine XP h (fun EditCode0 hb0 h=>?_)
 conv=>whnf
 refine Zib ?_
 refine Zge h (fun h=>?_) (fun h=>?_)
 conv=>whnf
 refine XP h (fun dirty0 hb1 h=>?_)
 conv=>whnf
 cases h
 exact hK
 conv=>whnf
 cases h
 exact hK
theorem Zzw (q0:ZV Tryz.prog 187 c162) (q2:ZV Tryz.prog 96 c160) (q1:ZV Tryz.prog 188 Zwj) (q3:ZV Tryz.prog 189 c164):ZV Tryz.prog 149 Zwk:=by
 refine Z0 Xn (ZX q0 (ZX q2 (ZX q1 (ZX q3 Z6)))) mixed {loops:=[(0,[.reg 11 (.dat (.int .i64)),.cello 1003 0 (.ol 133 (Zkg))]),(2,[.reg 30 (.dat (.int .i64)),.splt 7 201 Zqz])],draws:=[(5,[0,1,3,0,8,31,31,127,255,511],.op 0 (.op 1 (.op 3 (.op 4 (.alt 2 (.op 6 (.alt 5 (.alt 7 (.op 8 (.alt 9 (.done) (.done))) (.done)) (.done))) (.done)))))),(10,[0,1,0,0,8,0,0,64,192,0,512,1984,4039,8135,16327,32767,65535,131071],.op 0 (.op 1 (.op 2 (.op 3 (.op 5 (.op 6 (.op 7 (.op 9 (.op 10 (.alt 4 (.alt 8 (.alt 11 (.op 12 (.op 13 (.alt 14 (.op 15 (.op 16 (.alt 17 (.done) (.done)))) (.done)))) (.done)) (.done)) (.alt 8 (.alt 4 (.alt 11 (.op 12 (.op 13 (.alt 14 (.op 15 (.op 16 (.alt 17 (.done) (.done)))) (.done)))) (.done)) (.alt 11 (.op 12 (.op 13 (.alt 4 (.alt 14 (.op 15 (.op 16 (.alt 17 (.done) (.done)))) (.done)) (.alt 14 (.alt 4 (.op 15 (.op 16 (.alt 17 (.done) (.done)))) (.done)) (.done))))) (.done))) (.done))))))))))))]} (fn:=Tryz.f149) Tryz.func149 (by kernel_rfl) (by kernel_rfl) ?_
 rintro ⟨l0,⟨⟩⟩ K ⟨r,h,hK⟩
 change Vk l0=some r at h
 unfold Vk at h
 conv=>whnf
 refine Zos h ?_
 rintro I0 μ0 ⟨v0,c0,⟨⟩⟩ zs0 h hI0 hR0
 change XC l0 v0 c0=some zs0 at h
 unfold XC at h
 conv=>whnf
 intro fp1
 conv=>whnf
 refine Zge h (fun h=>?_) (fun h=>?_)
 conv=>whnf
 refine vAt h (fun x0 he2a he2b he2x h=>?_)
 conv=>whnf
 refine ⟨by kernel_rfl,?_⟩
 conv=>whnf
 refine XP h (fun Pin0 hb3 h=>?_)
 conv=>whnf
 refine XP h (fun int64_0 hb4 h=>?_)
 conv=>whnf
 refine ⟨trivial,?_⟩
 conv=>whnf
 refine XP h (fun Arc0 hb5 h=>?_)
 conv=>whnf
 refine Zos h ?_
 rintro I6 μ6 ⟨v1,l1,⟨⟩⟩ zs6 h hI6 hR6
 change Qg v0 c0 x0 Pin0 int64_0 Arc0 v1 l1=some zs6 at h
 unfold Qg at h
 conv=>whnf
 intro fp7
 conv=>whnf
 refine Zge h (fun h=>?_) (fun h=>?_)
 focus
  conv=>whnf
  refine vAt h (fun x1 he8a he8b he8x h=>?_)
  conv=>whnf
  refine ZkR h (fun hp9 h=>?_)
  conv=>whnf
  refine ⟨he8a,he8b,X0 he8x ?_⟩
  conv=>whnf
  refine ⟨by kernel_rfl,?_⟩
  conv=>whnf
  obtain ⟨cloneTables0,hb10,h⟩:=Option.bind_eq_some_iff.1 h
  obtain ⟨cloneTables1,hb12,h⟩:=Option.bind_eq_some_iff.1 h
  obtain ⟨hp14,h⟩:=guardE h
  obtain ⟨x2,he15a,he15b,he15x,h⟩:=atE h
  refine ⟨?_,?_⟩
  rotate_left
  focus
   conv=>whnf
   refine ⟨_,hb10,?_⟩
   conv=>whnf
   intro fp16
   conv=>whnf
   refine ⟨?_,?_⟩
   rotate_left
   focus
    conv=>whnf
    refine ⟨_,hb12,?_⟩
    conv=>whnf
    intro fp17
    conv=>whnf
    refine ⟨he8a,he8b,X0 he8x ?_⟩
    conv=>whnf
    refine ⟨?_,?_⟩
    rotate_left
    focus
     conv=>whnf
     refine ⟨hp14,?_⟩
     conv=>whnf
     refine ⟨he15a,he15b,X0 he15x ?_⟩
     conv=>whnf
     refine ⟨he8a,he8b,X0 he8x ?_⟩
     conv=>whnf
     refine ⟨hp14,?_⟩
     conv=>whnf
     refine ⟨trivial,?_⟩
    rotate_right
    focus
     conv=>whnf
     refine ⟨hp14,?_⟩
     conv=>whnf
     refine ⟨he15a,he15b,X0 he15x ?_⟩
     conv=>whnf
     refine ⟨he8a,he8b,X0 he8x ?_⟩
     conv=>whnf
     refine ⟨hp14,?_⟩
     conv=>whnf
     refine ⟨trivial,?_⟩
   rotate_right
   focus
    conv=>whnf
    refine ⟨_,hb12,?_⟩
    conv=>whnf
    intro fp17
    conv=>whnf
    refine ⟨he8a,he8b,X0 he8x ?_⟩
    conv=>whnf
    refine ⟨hp14,?_⟩
    conv=>whnf
    refine ⟨he15a,he15b,X0 he15x ?_⟩
    conv=>whnf
    refine ⟨he8a,he8b,X0 he8x ?_⟩
    conv=>whnf
    refine ⟨hp14,?_⟩
    conv=>whnf
    refine ⟨trivial,?_⟩
  rotate_right
  focus
   conv=>whnf
   refine ⟨_,hb10,?_⟩
   conv=>whnf
   intro fp16
   conv=>whnf
   refine ⟨_,hb12,?_⟩
   conv=>whnf
   intro fp17
   conv=>whnf
   refine ⟨he8a,he8b,X0 he8x ?_⟩
   conv=>whnf
   refine ⟨hp14,?_⟩
   conv=>whnf
   refine ⟨he15a,he15b,X0 he15x ?_⟩
   conv=>whnf
   refine ⟨he8a,he8b,X0 he8x ?_⟩
   conv=>whnf
   refine ⟨hp14,?_⟩
   conv=>whnf
   refine ⟨trivial,?_⟩
  all_goals
   conv=>whnf
   cases h
   exact ⟨⟨rfl,rfl⟩,hI6 _ rfl⟩
 conv=>whnf
 refine ZkR h (fun hp18 h=>?_)
 conv=>whnf
 intro fp19
 conv=>whnf
 refine ZkR h (fun hp20 h=>?_)
 conv=>whnf
 intro fp21
 conv=>whnf
 cases h
 obtain rfl:=hR6 _ rfl
 exact ⟨⟨rfl,rfl⟩,hI0 _ rfl⟩
 conv=>whnf
 cases h
 obtain rfl:=hR0 _ rfl
 exact hK
theorem w_laws_FnExactDirtyNodes (q7:ZV Tryz.prog 4 c18) (q10:ZV Tryz.prog 5 c19) (q8:ZV Tryz.prog 7 c38) (q11:ZV Tryz.prog 8 c39) (q0:ZV Tryz.prog 6 c87) (q1:ZV Tryz.prog 9 c183) (q5:ZV Tryz.prog 10 Ztr) (q9:ZV Tryz.prog 11 ZwE) (q12:ZV Tryz.prog 12 c203) (q4:ZV Tryz.prog 13 ZwL) (q6:ZV Tryz.prog 14 c218) (q2:ZV Tryz.prog 15 c206) (q3:ZV Tryz.prog 16 ZwN):ZV Tryz.prog 3 Zb2:=by
 refine Z0 Ya (ZX q7 (ZX q10 (ZX q8 (ZX q11 (ZX q0 (ZX q1 (ZX q5 (ZX q9 (ZX q12 (ZX q4 (ZX q6 (ZX q2 (ZX q3 Z6))))))))))))) mixed {draws:=[(8,[0,1,0,7,15,31,63,63,127,511],.op 0 (.op 2 (.alt 1 (.alt 3 (.alt 4 (.op 5 (.op 6 (.op 7 (.op 8 (.op 9 (.done)))))) (.done)) (.done)) (.done)))),(14,[0,0,2,7,15],.op 0 (.op 1 (.alt 2 (.alt 3 (.op 4 (.done)) (.done)) (.done)))),(16,[0,0,2,7,15],.op 0 (.op 1 (.alt 2 (.alt 3 (.op 4 (.done)) (.done)) (.done)))),(31,[0,1,0,7,15,31,63,63,127,511],.op 0 (.op 2 (.alt 1 (.alt 3 (.alt 4 (.op 5 (.op 6 (.op 7 (.op 8 (.op 9 (.done)))))) (.done)) (.done)) (.done))))]} (fn:=Tryz.f3) Tryz.func3 (by kernel_rfl) (by kernel_rfl) ?_
 rintro ⟨a0,a1,⟨⟩⟩ K ⟨r,h,hK⟩
 change Qs a0 a1=some r at h
 unfold Qs at h
 conv=>whnf
 refine XP h (fun szBlock0 hb0 h=>?_)
 conv=>whnf
 refine Zge h (fun h=>?_) (fun h=>?_)
 conv=>whnf
 cases h
 exact hK
 conv=>whnf
 refine XP h (fun szEdit0 hb1 h=>?_)
 conv=>whnf
 refine Zge h (fun h=>?_) (fun h=>?_)
 conv=>whnf
 cases h
 exact hK
 conv=>whnf
 refine ⟨by kernel_rfl,?_⟩
 conv=>whnf
 refine XP h (fun toBlock0 hb2 h=>?_)
 conv=>whnf
 intro fp3
 conv=>whnf
 intro fp4
 conv=>whnf
 intro fp5
 conv=>whnf
 refine XP h (fun toEdit0 hb6 h=>?_)
 conv=>whnf
 refine XP h (fun DirtyNodes0 hb7 h=>?_)
 conv=>whnf
 refine ⟨trivial,?_⟩
 conv=>whnf
 refine ⟨_,hb2,?_⟩
 conv=>whnf
 intro fp8
 conv=>whnf
 intro fp9
 conv=>whnf
 intro fp10
 conv=>whnf
 refine ⟨_,hb6,?_⟩
 conv=>whnf
 refine XP h (fun DirtyNodes1 hb11 h=>?_)
 conv=>whnf
 refine XP h (fun eqInt64S0 hb12 h=>?_)
 conv=>whnf
 refine ZrX ?_
 refine Zpe h (fun h=>?_) (fun h=>?_)
 conv=>whnf
 refine Zib ?_
 refine Zge h (fun h=>?_) (fun h=>?_)
 conv=>whnf
 refine ⟨by kernel_rfl,?_⟩
 conv=>whnf
 refine ⟨_,hb2,?_⟩
 conv=>whnf
 intro fp13
 conv=>whnf
 intro fp14
 conv=>whnf
 intro fp15
 conv=>whnf
 refine XP h (fun eqBlock0 hb16 h=>?_)
 conv=>whnf
 refine ⟨trivial,?_⟩
 conv=>whnf
 refine Zib ?_
 refine Zpe h (fun h=>?_) (fun h=>?_)
 conv=>whnf
 refine ⟨by kernel_rfl,?_⟩
 conv=>whnf
 refine ⟨_,hb6,?_⟩
 conv=>whnf
 refine XP h (fun eqEdit0 hb17 h=>?_)
 conv=>whnf
 refine ⟨trivial,?_⟩
 conv=>whnf
 refine Zib ?_
 refine Zpe h (fun h=>?_) (fun h=>?_)
 conv=>whnf
 refine XP h (fun markBlock0 hb18 h=>?_)
 conv=>whnf
 intro fp19
 conv=>whnf
 intro fp20
 conv=>whnf
 intro fp21
 conv=>whnf
 refine XP h (fun markEdit0 hb22 h=>?_)
 conv=>whnf
 refine Zpf h (fun h=>?_) (fun h=>?_)
 conv=>whnf
 cases h
 exact hK
 conv=>whnf
 refine ⟨_,hb12,?_⟩
 conv=>whnf
 refine ZrX ?_
 refine Zpe h (fun h=>?_) (fun h=>?_)
 conv=>whnf
 refine Zib ?_
 refine Zge h (fun h=>?_) (fun h=>?_)
 conv=>whnf
 refine XP h (fun markInt64S0 hb23 h=>?_)
 conv=>whnf
 refine XP h (fun heldInt64S0 hb24 h=>?_)
 conv=>whnf
 refine Zge h (fun h=>?_) (fun h=>?_)
 conv=>whnf
 cases h
 exact hK
 conv=>whnf
 refine Zib ?_
 refine Zge h (fun h=>?_) (fun h=>?_)
 conv=>whnf
 refine ⟨by kernel_rfl,?_⟩
 conv=>whnf
 refine ⟨_,hb2,?_⟩
 conv=>whnf
 intro fp25
 conv=>whnf
 intro fp26
 conv=>whnf
 intro fp27
 conv=>whnf
 refine ⟨_,hb6,?_⟩
 conv=>whnf
 refine ⟨_,hb11,?_⟩
 conv=>whnf
 refine ⟨trivial,?_⟩
 conv=>whnf
 refine ⟨_,hb12,?_⟩
 conv=>whnf
 refine ZrX ?_
 refine Zpe h (fun h=>?_) (fun h=>?_)
 conv=>whnf
 refine Zib ?_
 refine Zge h (fun h=>?_) (fun h=>?_)
 conv=>whnf
 refine ⟨_,hb24,?_⟩
 conv=>whnf
 refine Zge h (fun h=>?_) (fun h=>?_)
 conv=>whnf
 cases h
 exact hK
 conv=>whnf
 refine Zib ?_
 refine Zge h (fun h=>?_) (fun h=>?_)
 conv=>whnf
 cases h
 exact hK
 conv=>whnf
 cases h
 exact hK
 conv=>whnf
 cases h
 exact hK
 conv=>whnf
 cases h
 exact hK
 conv=>whnf
 cases h
 exact hK
 conv=>whnf
 cases h
 exact hK
 conv=>whnf
 cases h
 exact hK
 conv=>whnf
 cases h
 exact hK
 conv=>whnf
 cases h
 exact hK
 conv=>whnf
 cases h
 exact hK
 conv=>whnf
 cases h
 exact hK
end Go.Proofs.YtdabmnfkcnkkbaaGreatDoor
