/-
  The functions keep their contracts, if what they call does. Printed by program.
-/
import Derived.Test.YtdabmnfkcnkkbaaGreatDoorM
import Derived.KernelRfl
namespace Go.Proofs.YtdabmnfkcnkkbaaGreatDoor
open Go Go.Sx
set_option maxRecDepth 100000
set_option maxHeartbeats 3200000
set_option linter.unusedVariables false
set_option linter.unusedSimpArgs false
structure Ws1:Prop where
 w171:ZV Tryz.prog 149 Zwk→ZV Tryz.prog 150 Zwm→ZV Tryz.prog 106 Zvt→ZV Tryz.prog 100 c171
 w119:ZV Tryz.prog 245 c119
 w112:ZV Tryz.prog 226 c90→ZV Tryz.prog 230 ZuK
 w140:ZV Tryz.prog 133 c96→ZV Tryz.prog 134 c88→ZV Tryz.prog 135 c139→ZV Tryz.prog 136 Zur→ZV Tryz.prog 93 Zvr
 w146:ZV Tryz.prog 139 c146
 w203:ZV Tryz.prog 32 Zvu→ZV Tryz.prog 12 c203
 w184:ZV Tryz.prog 10 Ztr
 w193:ZV Tryz.prog 61 ZwA→ZV Tryz.prog 29 c193
 w198:ZV Tryz.prog 110 ZwC→ZV Tryz.prog 64 c198
 w187:ZV Tryz.prog 10 Ztr→ZV Tryz.prog 238 Zwv
 w201:ZV Tryz.prog 32 Zvu→ZV Tryz.prog 31 c201
 w219:ZV Tryz.prog 16 ZwN
 w214:ZV Tryz.prog 66 ZwI→ZV Tryz.prog 67 c212→ZV Tryz.prog 68 c213→ZV Tryz.prog 34 ZwJ
 w205:ZV Tryz.prog 111 Zts→ZV Tryz.prog 112 ZwF
 w204:ZV Tryz.prog 111 Zts
 w19:ZV Tryz.prog 20 c16→ZV Tryz.prog 5 c19
 w11:ZV Tryz.prog 70 c10→ZV Tryz.prog 38 c11
 w1:ZV Tryz.prog 156 c0→ZV Tryz.prog 114 c1
 w4:ZV Tryz.prog 222 c3→ZV Tryz.prog 195 c4
 w16:ZV Tryz.prog 41 c2→ZV Tryz.prog 20 c16
 w28:ZV Tryz.prog 89 c27→ZV Tryz.prog 50 c28
 w30:ZV Tryz.prog 54 c22→ZV Tryz.prog 90 c30
 w162:ZV Tryz.prog 187 c162
 w121:ZV Tryz.prog 244 ZvY→ZV Tryz.prog 228 ZvZ
 w107:ZV Tryz.prog 260 ZvQ→ZV Tryz.prog 250 c107
 w136:ZV Tryz.prog 166 Zv7→ZV Tryz.prog 131 Zv8
 w110:ZV Tryz.prog 255 c109→ZV Tryz.prog 254 ZvS
 w57:ZV Tryz.prog 72 c53→ZV Tryz.prog 74 c55→ZV Tryz.prog 73 c56→ZV Tryz.prog 42 c57
 w49:ZV Tryz.prog 196 c42→ZV Tryz.prog 78 c40→ZV Tryz.prog 75 c41→ZV Tryz.prog 197 c47→ZV Tryz.prog 198 c48→ZV Tryz.prog 158 c49
 w73:ZV Tryz.prog 123 c70→ZV Tryz.prog 199 c72→ZV Tryz.prog 159 c73
 w42:ZV Tryz.prog 78 c40→ZV Tryz.prog 75 c41→ZV Tryz.prog 196 c42
 w61:ZV Tryz.prog 77 c61
 w67:ZV Tryz.prog 47 c54→ZV Tryz.prog 76 c60→ZV Tryz.prog 77 c61→ZV Tryz.prog 78 c40→ZV Tryz.prog 79 c62→ZV Tryz.prog 80 c64→ZV Tryz.prog 81 c66→ZV Tryz.prog 74 c55→ZV Tryz.prog 73 c56→ZV Tryz.prog 45 c67
set_option maxHeartbeats 100000000 in
theorem ws1:Ws1:=by
 refine ⟨(fun q0 q1 q2=>Z0 Xn (ZX q0 (ZX q1 (ZX q2 Z6))) mixed {loops:=[(0,[.reg 16 (.dat (.int .i64)),.cello 1003 4 (.ol 53 (Zg8))])],draws:=[(1,[0,1,3,0,8,31,63,0,255],.op 0 (.op 1 (.op 3 (.op 4 (.alt 2 (.alt 5 (.op 6 (.alt 7 (.alt 8 (.done) (.done)) (.done))) (.alt 7 (.alt 5 (.op 6 (.alt 8 (.done) (.done))) (.done)) (.done))) (.alt 7 (.alt 2 (.alt 5 (.op 6 (.alt 8 (.done) (.done))) (.done)) (.done)) (.done))))))),(5,[0,1,0,4,12,31,63,127],.op 0 (.op 1 (.op 2 (.alt 3 (.alt 4 (.alt 5 (.op 6 (.alt 7 (.done) (.done))) (.done)) (.done)) (.done)))))]} Tryz.func100 (hvc:=?_)),
 (Z0 Ya Z6 mixed {} Tryz.func245 (hvc:=?_)),
 (fun q0=>Z0 Ya (ZX q0 Z6) mixed {} Tryz.func230 (hvc:=?_)),
 (fun q0 q3 q1 q2=>Z0 Ya (ZX q0 (ZX q3 (ZX q1 (ZX q2 Z6)))) mixed {} Tryz.func93 (hvc:=?_)),
 (Z0 Ya Z6 mixed {} Tryz.func139 (hvc:=?_)),
 (fun q0=>Z0 Ya (ZX q0 Z6) mixed {} Tryz.func12 (hvc:=?_)),
 (Z0 Ya Z6 mixed {loops:=[(0,[.reg 5 (.dat (.int .i64))])],draws:=[(6,[0,0,3,7,0,0,48,112,255],.op 0 (.op 1 (.op 2 (.op 3 (.op 4 (.op 5 (.op 6 (.op 7 (.op 8 (.done))))))))))]} Tryz.func10 (hvc:=?_)),
 (fun q0=>Z0 Ya (ZX q0 Z6) mixed {} Tryz.func29 (hvc:=?_)),
 (fun q0=>Z0 Ya (ZX q0 Z6) mixed {loops:=[(0,[.reg 5 (.dat (.int .i64))])],draws:=[(6,[0,0,3,7,0,0,48,112,255,511],.op 0 (.op 1 (.op 2 (.op 3 (.op 4 (.op 5 (.op 6 (.op 7 (.alt 8 (.op 9 (.done)) (.done))))))))))]} Tryz.func64 (hvc:=?_)),
 (fun q0=>Z0 Ya (ZX q0 Z6) mixed {} Tryz.func238 (hvc:=?_)),
 (fun q0=>Z0 Ya (ZX q0 Z6) mixed {loops:=[(0,[.reg 5 (.dat (.int .i64))])],draws:=[(6,[0,0,3,7,0,0,48,112,255,511],.op 0 (.op 1 (.op 2 (.op 3 (.op 4 (.op 5 (.op 6 (.op 7 (.alt 8 (.op 9 (.done)) (.done))))))))))]} Tryz.func31 (hvc:=?_)),
 (Z0 Ya Z6 mixed {loops:=[(0,[.reg 1 (.dat (.int .i64)),.reg 5 (.dat (.int .i64))])]} Tryz.func16 (hvc:=?_)),
 (fun q0 q1 q2=>Z0 Xn (ZX q0 (ZX q1 (ZX q2 Z6))) mixed {} Tryz.func34 (hvc:=?_)),
 (fun q0=>Z0 Xn (ZX q0 Z6) mixed {loops:=[(0,[.reg 1 (.dat (.int .i64)),.reg 5 (.dat (.int .i64)),.ent 0 (nat_lit 168) (.flat Zcb)])]} Tryz.func112 (hvc:=?_)),
 (Z0 Ya Z6 mixed {loops:=[(0,[.reg 0 (.dat (.int .i64)),.reg 3 (.dat (.str))])]} Tryz.func111 (hvc:=?_)),
 (fun q0=>Z0 Ya (ZX q0 Z6) mixed {} Tryz.func5 (hvc:=?_)),
 (fun q0=>Z0 Ya (ZX q0 Z6) mixed {loops:=[(0,[.reg 1 (.dat (.int .i64)),.reg 5 (.dat (.int .i64))])]} Tryz.func38 (hvc:=?_)),
 (fun q0=>Z0 Ya (ZX q0 Z6) mixed {loops:=[(0,[.reg 1 (.dat (.int .i64)),.reg 5 (.dat (.int .i64))])]} Tryz.func114 (hvc:=?_)),
 (fun q0=>Z0 Ya (ZX q0 Z6) mixed {loops:=[(0,[.reg 1 (.dat (.int .i64)),.reg 5 (.dat (.int .i64))])]} Tryz.func195 (hvc:=?_)),
 (fun q0=>Z0 Ya (ZX q0 Z6) mixed {} Tryz.func20 (hvc:=?_)),
 (fun q0=>Z0 Xn (ZX q0 Z6) mixed {loops:=[(0,[.reg 4 (.dat (.int .i64)),.ent 0 (nat_lit 133) Zkg])]} Tryz.func50 (hvc:=?_)),
 (fun q0=>Z0 Ya (ZX q0 Z6) mixed {} Tryz.func90 (hvc:=?_)),
 (Z0 Ya Z6 mixed {} Tryz.func187 (hvc:=?_)),
 (fun q0=>Z0 Ya (ZX q0 Z6) mixed {} Tryz.func228 (hvc:=?_)),
 (fun q0=>Z0 Ya (ZX q0 Z6) mixed {} Tryz.func250 (hvc:=?_)),
 (fun q0=>Z0 Ya (ZX q0 Z6) mixed {} Tryz.func131 (hvc:=?_)),
 (fun q0=>Z0 Ya (ZX q0 Z6) mixed {loops:=[(0,[.reg 8 (.dat (.int .i64))])]} Tryz.func254 (hvc:=?_)),
 (fun q0 q1 q2=>Z0 Ya (ZX q0 (ZX q1 (ZX q2 Z6))) mixed {loops:=[(0,[.reg 3 (.dat (.int .i64))])],draws:=[(6,[0,1,0,7,15,0,32,0,224,480,1023,2047],.op 0 (.op 1 (.op 2 (.op 3 (.op 4 (.op 5 (.op 6 (.op 7 (.alt 8 (.op 9 (.alt 10 (.op 11 (.done)) (.done))) (.done))))))))))]} Tryz.func42 (hvc:=?_)),
 (fun q1 q2 q4 q3 q0=>Z0 Ya (ZX q1 (ZX q2 (ZX q4 (ZX q3 (ZX q0 Z6))))) mixed {loops:=[(0,[.reg 5 (.dat (.int .i64))]),(2,[.reg 7 (.dat (.int .i64))]),(5,[.reg 9 (.dat (.int .i64))])],draws:=[(13,[0,1,0,7,15,31,0,64,255,511,1023,2047,1023,8191,16383,32767,1023,66559,262143,524287,1048575,2097151,4194303,2097151,16777215,33554431,67108863,2097151,136314879,536870911,1073741823],.op 0 (.op 1 (.op 2 (.op 3 (.op 4 (.op 5 (.op 6 (.op 7 (.op 8 (.op 9 (.op 10 (.op 11 (.op 12 (.op 13 (.op 14 (.op 15 (.op 16 (.op 17 (.op 18 (.op 19 (.op 20 (.op 21 (.op 22 (.op 23 (.op 24 (.op 25 (.op 26 (.op 27 (.op 28 (.op 29 (.op 30 (.done)))))))))))))))))))))))))))))))),(25,[0,1,3,7,15,31,63,127,255,511,1023,2047,4095,511,8703,25087,57855,131071,262143,524287,1048575,2097151,4194303,8388607,16777215,33554431],.op 0 (.op 1 (.op 2 (.op 3 (.op 4 (.op 5 (.op 6 (.op 7 (.op 8 (.op 9 (.op 10 (.op 11 (.op 12 (.op 13 (.op 14 (.op 15 (.op 16 (.op 17 (.op 18 (.op 19 (.op 20 (.op 21 (.op 22 (.op 23 (.op 24 (.op 25 (.done)))))))))))))))))))))))))))]} Tryz.func158 (hvc:=?_)),
 (fun q1 q0=>Z0 Xn (ZX q1 (ZX q0 Z6)) mixed {loops:=[(0,[.reg 4 (.dat (.int .i64)),.cello 1003 3 (.ol 201 (Zqz))])],draws:=[(1,[0,1,0,4,0,0,32,112,0,256,1008,0,2048,0,8192,32767,0,131071],.op 0 (.op 2 (.op 5 (.op 6 (.op 8 (.op 11 (.op 13 (.ld 1 (.ld 3 (.ld 9 (.ld 12 (.ld 14 (.alt 4 (.alt 7 (.alt 10 (.op 15 (.alt 16 (.alt 17 (.done) (.done)) (.done))) (.alt 16 (.alt 10 (.op 15 (.alt 17 (.done) (.done))) (.done)) (.done))) (.alt 16 (.alt 7 (.alt 10 (.op 15 (.alt 17 (.done) (.done))) (.done)) (.done)) (.done))) (.alt 16 (.alt 4 (.alt 7 (.alt 10 (.op 15 (.alt 17 (.done) (.done))) (.done)) (.done)) (.done)) (.done)))))))))))))))]} Tryz.func159 (hvc:=?_)),
 (fun q0 q1=>Z0 Ya (ZX q0 (ZX q1 Z6)) mixed {loops:=[(0,[.reg 5 (.dat (.int .i64)),.reg 6 (.dat (.int .i64))]),(2,[.reg 8 (.dat (.int .i64))])],draws:=[(12,[0,1,0,7,15,31,0,64,255],.op 0 (.op 1 (.op 2 (.op 3 (.op 4 (.op 5 (.op 6 (.op 7 (.op 8 (.done))))))))))]} Tryz.func196 (hvc:=?_)),
 (Z0 Ya Z6 mixed {} Tryz.func77 (hvc:=?_)),
 (fun q1 q3 q2 q6 q0 q4 q7 q5 q8=>Z0 Ya (ZX q1 (ZX q3 (ZX q2 (ZX q6 (ZX q0 (ZX q4 (ZX q7 (ZX q5 (ZX q8 Z6))))))))) mixed {draws:=[(5,[0,1,3,7,15,31,63,127,255,511,1023,255,2303,6399,255,16639,63743,129279,260351,524287,1048575,255,2097407,6291711,255,16777471,65011967,132120831,268435455,536870911,1073741823],.op 0 (.op 1 (.op 2 (.op 3 (.op 4 (.op 5 (.op 6 (.op 7 (.op 8 (.op 9 (.op 10 (.op 11 (.op 12 (.op 13 (.op 14 (.op 15 (.op 16 (.op 17 (.op 18 (.op 19 (.op 20 (.op 21 (.op 22 (.op 23 (.op 24 (.op 25 (.op 26 (.op 27 (.alt 28 (.op 29 (.op 30 (.done))) (.done)))))))))))))))))))))))))))))),(11,[0,0,2,7,15,31,63,127,255,255,767,2047,4095,8191,255,16639,65535,131071,262143],.op 0 (.op 1 (.op 2 (.op 3 (.op 4 (.op 5 (.op 6 (.op 7 (.op 8 (.op 9 (.op 10 (.op 11 (.op 12 (.op 13 (.op 14 (.op 15 (.op 16 (.op 17 (.op 18 (.done)))))))))))))))))))),(12,[0,1,0,4,0,16,60,124,255,511],.op 0 (.op 1 (.op 2 (.op 3 (.op 4 (.op 5 (.alt 6 (.op 7 (.alt 8 (.op 9 (.done)) (.done))) (.done))))))))]} Tryz.func45 (hvc:=?_))⟩
 all_goals
  intro a
  repeat rcases a with ⟨_,a⟩
  rintro K ⟨r,h,hK⟩
  repeat'
    conv=>whnf
    first
    | with_reducible refine Zp3 ?_
    | with_reducible refine ZdA (by assumption) (by assumption) (by assumption) ?_
    | with_reducible refine X0 (by assumption) ?_
    | with_reducible refine ZdD (by assumption) ?_
    | (with_reducible refine shD ?_);first | refine Zge h (fun h=>?_) (fun h=>?_) | refine Zpf h (fun h=>?_) (fun h=>?_)
    | (with_reducible refine Zqm ?_);first | refine ZrX ?_ | refine Zib ?_
    | (with_reducible refine Zuy ?_);first | refine Zpe h (fun h=>?_) (fun h=>?_) | refine Zqw h (fun h=>?_) (fun h=>?_)
    | (with_reducible refine Zql ?_);(refine ⟨fun hd=>?_,?_⟩)<;>try subst hd
    | (with_reducible refine ZuA ?_);first | with_reducible refine XP h (fun x hb h=>?_) | refine ZdD (by assumption) ?_ | with_reducible refine pG h (fun hp h=>?_) | with_reducible refine pA h (fun x ha hb hx h=>?_) | with_reducible refine pB h (fun x hb h=>?_) | refine XP h (fun x hb h=>?_)
    | (with_reducible refine Zux ?_);first | with_reducible refine vAt h (fun x ha hb hx h=>?_) | refine ZdA (by assumption) (by assumption) (by assumption) ?_ | with_reducible refine pG h (fun hp h=>?_) | with_reducible refine pA h (fun x ha hb hx h=>?_) | with_reducible refine pB h (fun x hb h=>?_) | refine vAt h (fun x ha hb hx h=>?_)
    | (with_reducible refine Zqk ?_);first | with_reducible refine ZkJ h (fun x hb h=>?_) | refine X0 (by assumption) ?_ | with_reducible refine pG h (fun hp h=>?_) | with_reducible refine pA h (fun x ha hb hx h=>?_) | with_reducible refine pB h (fun x hb h=>?_) | refine ZkJ h (fun x hb h=>?_)
    | with_reducible refine Zuz ?_
    | (with_reducible refine ZmW ?_);refine ZmY h hK ?_;clear h hK;intro I μ v r h hK;(repeat rcases v with ⟨_,v⟩);(try dsimp only at h)
    | with_reducible refine ⟨by assumption,?_⟩
    | with_reducible refine orL ?_
    | with_reducible refine .inr ?_
    | (with_reducible refine Zqn ?_);first | refine ⟨?_,True.intro⟩ | refine ⟨?_,?_⟩
    | refine ⟨by kernel_rfl,?_⟩
    | refine ⟨by decide,?_⟩
    | with_reducible refine ZkR h (fun hp h=>?_)
    | intro fp
    | exact trivial
    | with_reducible exact Zp0 h
    | (refine pS h (fun e=>?_));subst e;(repeat (first | exact hK | exact ⟨⟨rfl,rfl⟩,hK.1 _ rfl⟩ | (refine pR hK (fun e hK=>?_));subst e));done
    | refine ZkR h (fun hp h=>?_)
    | refine ⟨by assumption,?_⟩
    | with_reducible refine pG h (fun hp h=>?_) | with_reducible refine pA h (fun x ha hb hx h=>?_) | with_reducible refine pB h (fun x hb h=>?_)
    | refine pG h (fun hp h=>?_)
    | fail
theorem Zzv (q1:ZV Tryz.prog 59 c138) (q0:ZV Tryz.prog 96 c160) (q2:ZV Tryz.prog 97 Ztq) (q4:ZV Tryz.prog 98 ZkV) (q3:ZV Tryz.prog 99 Zhq):ZV Tryz.prog 57 Zwi:=by
 refine Z0 Ya (ZX q1 (ZX q0 (ZX q2 (ZX q4 (ZX q3 Z6))))) mixed {draws:=[(5,[0,1,0,4,0,16,60,124,252,511,1023,2047,4095,8191],.op 0 (.op 1 (.op 2 (.op 4 (.op 5 (.alt 3 (.op 6 (.op 7 (.op 8 (.op 9 (.op 10 (.op 11 (.alt 12 (.op 13 (.done)) (.done)))))))) (.done))))))),(7,[0,1,0,4,15,31,63,0,128,387,1023,2047],.op 0 (.op 2 (.op 3 (.op 7 (.op 8 (.alt 1 (.op 4 (.op 5 (.op 6 (.alt 9 (.alt 10 (.op 11 (.done)) (.done)) (.done))))) (.done))))))),(11,[0,1,0,4,15,31,63,0,128,511,1023],.op 0 (.op 2 (.op 3 (.op 7 (.op 8 (.alt 1 (.op 4 (.op 5 (.op 6 (.alt 9 (.op 10 (.done)) (.done))))) (.done)))))))]} (fn:=Tryz.f57) Tryz.func57 (by kernel_rfl) (by kernel_rfl) ?_
 rintro ⟨a0,a1,⟨⟩⟩ K ⟨r,h,hK⟩
 change Vi a0 a1=some r at h
 unfold Vi at h
 conv=>whnf
 refine Zge h (fun h=>?_) (fun h=>?_)
 conv=>whnf
 refine ⟨by kernel_rfl,?_⟩
 conv=>whnf
 refine XP h (fun places0 hb0 h=>?_)
 conv=>whnf
 refine vAt h (fun x0 he1a he1b he1x h=>?_)
 conv=>whnf
 refine ⟨by kernel_rfl,?_⟩
 conv=>whnf
 refine ⟨he1a,he1b,X0 he1x ?_⟩
 conv=>whnf
 refine vAt h (fun x1 he2a he2b he2x h=>?_)
 conv=>whnf
 refine XP h (fun int64_0 hb3 h=>?_)
 conv=>whnf
 refine ⟨trivial,?_⟩
 conv=>whnf
 refine XP h (fun srtO0 hb4 h=>?_)
 conv=>whnf
 refine XP h (fun cmpctO0 hb5 h=>?_)
 conv=>whnf
 cases h
 exact hK
 conv=>whnf
 refine Zge h (fun h=>?_) (fun h=>?_)
 conv=>whnf
 refine ⟨by kernel_rfl,?_⟩
 conv=>whnf
 refine XP h (fun places0 hb6 h=>?_)
 conv=>whnf
 refine vAt h (fun x0 he7a he7b he7x h=>?_)
 conv=>whnf
 refine ⟨by kernel_rfl,?_⟩
 conv=>whnf
 refine ⟨he7a,he7b,X0 he7x ?_⟩
 conv=>whnf
 refine XP h (fun string0 hb8 h=>?_)
 conv=>whnf
 refine ⟨trivial,?_⟩
 conv=>whnf
 refine XP h (fun srtO0 hb9 h=>?_)
 conv=>whnf
 refine XP h (fun cmpctO0 hb10 h=>?_)
 conv=>whnf
 cases h
 exact hK
 conv=>whnf
 refine Zge h (fun h=>?_) (fun h=>?_)
 conv=>whnf
 refine vAt h (fun x0 he11a he11b he11x h=>?_)
 conv=>whnf
 refine vAt h (fun x1 he12a he12b he12x h=>?_)
 conv=>whnf
 refine XP h (fun srtO0 hb13 h=>?_)
 conv=>whnf
 refine XP h (fun cmpctO0 hb14 h=>?_)
 conv=>whnf
 cases h
 exact hK
 conv=>whnf
 refine Zge h (fun h=>?_) (fun h=>?_)
 conv=>whnf
 refine ⟨by kernel_rfl,?_⟩
 conv=>whnf
 refine XP h (fun places0 hb15 h=>?_)
 conv=>whnf
 refine vAt h (fun x0 he16a he16b he16x h=>?_)
 conv=>whnf
 refine ⟨by kernel_rfl,?_⟩
 conv=>whnf
 refine ⟨he16a,he16b,X0 he16x ?_⟩
 conv=>whnf
 refine ⟨trivial,?_⟩
 conv=>whnf
 refine XP h (fun srtO0 hb17 h=>?_)
 conv=>whnf
 refine XP h (fun cmpctO0 hb18 h=>?_)
 conv=>whnf
 cases h
 exact hK
 conv=>whnf
 refine Zge h (fun h=>?_) (fun h=>?_)
 conv=>whnf
 refine XP h (fun srtO0 hb19 h=>?_)
 conv=>whnf
 refine XP h (fun cmpctO0 hb20 h=>?_)
 conv=>whnf
 cases h
 exact hK
 conv=>whnf
 refine XP h (fun srtO0 hb21 h=>?_)
 conv=>whnf
 refine XP h (fun cmpctO0 hb22 h=>?_)
 conv=>whnf
 cases h
 exact hK
theorem Zzz (q0:ZV Tryz.prog 107 Zwr):ZV Tryz.prog 60 Zws:=by
 refine Z0 Ya (ZX q0 Z6) mixed {} (fn:=Tryz.f60) Tryz.func60 (by kernel_rfl) (by kernel_rfl) ?_
 rintro ⟨s0,v0,⟨⟩⟩ K ⟨r,h,hK⟩
 change Xj s0 v0=some r at h
 unfold Xj at h
 conv=>whnf
 refine XP h (fun int64_0 hb0 h=>?_)
 conv=>whnf
 cases h
 exact hK
theorem w69 (q0:ZV Tryz.prog 47 c54):ZV Tryz.prog 46 c69:=by
 refine Z0 Ya (ZX q0 Z6) mixed {draws:=[(4,[0,1,3,0,0,16,56,120,248,511,1023,2047,4095],.op 0 (.op 1 (.op 2 (.op 3 (.op 4 (.op 5 (.op 6 (.op 7 (.op 8 (.op 9 (.op 10 (.op 11 (.op 12 (.done)))))))))))))),(6,[0,0,2,7,15,31,0,64,192,511,1023],.op 0 (.op 1 (.op 2 (.op 3 (.op 4 (.op 5 (.op 6 (.op 7 (.op 8 (.alt 9 (.op 10 (.done)) (.done))))))))))),(10,[0,0,2,7,15,31,0,64,255,511],.op 0 (.op 1 (.op 2 (.op 3 (.op 4 (.op 5 (.op 6 (.op 7 (.alt 8 (.op 9 (.done)) (.done))))))))))]} (fn:=Tryz.f46) Tryz.func46 (by kernel_rfl) (by kernel_rfl) ?_
 rintro ⟨a0,a1,⟨⟩⟩ K ⟨r,h,hK⟩
 change Ju a0 a1=some r at h
 unfold Ju at h
 conv=>whnf
 refine XP h (fun l05Places0 hb0 h=>?_)
 conv=>whnf
 refine Zge h (fun h=>?_) (fun h=>?_)
 conv=>whnf
 refine ⟨by kernel_rfl,?_⟩
 conv=>whnf
 refine vAt h (fun x0 he1a he1b he1x h=>?_)
 conv=>whnf
 refine ⟨by kernel_rfl,?_⟩
 conv=>whnf
 refine ⟨he1a,he1b,X0 he1x ?_⟩
 conv=>whnf
 refine vAt h (fun x1 he2a he2b he2x h=>?_)
 conv=>whnf
 refine ⟨trivial,?_⟩
 conv=>whnf
 cases h
 exact hK
 conv=>whnf
 refine Zge h (fun h=>?_) (fun h=>?_)
 conv=>whnf
 refine ⟨by kernel_rfl,?_⟩
 conv=>whnf
 refine vAt h (fun x0 he3a he3b he3x h=>?_)
 conv=>whnf
 refine ⟨by kernel_rfl,?_⟩
 conv=>whnf
 refine ⟨he3a,he3b,X0 he3x ?_⟩
 conv=>whnf
 refine ⟨trivial,?_⟩
 conv=>whnf
 cases h
 exact hK
 conv=>whnf
 refine Zge h (fun h=>?_) (fun h=>?_)
 conv=>whnf
 refine vAt h (fun x0 he4a he4b he4x h=>?_)
 conv=>whnf
 refine vAt h (fun x1 he5a he5b he5x h=>?_)
 conv=>whnf
 cases h
 exact hK
 conv=>whnf
 refine Zge h (fun h=>?_) (fun h=>?_)
 conv=>whnf
 refine ⟨by kernel_rfl,?_⟩
 conv=>whnf
 refine vAt h (fun x0 he6a he6b he6x h=>?_)
 conv=>whnf
 refine ⟨by kernel_rfl,?_⟩
 conv=>whnf
 refine ⟨he6a,he6b,X0 he6x ?_⟩
 conv=>whnf
 refine ⟨trivial,?_⟩
 conv=>whnf
 cases h
 exact hK
 conv=>whnf
 cases h
 exact hK
theorem w86 (q0:ZV Tryz.prog 46 c69) (q2:ZV Tryz.prog 48 c84) (q1:ZV Tryz.prog 47 c54) (q3:ZV Tryz.prog 49 c85):ZV Tryz.prog 22 c86:=by
 refine Z0 Ya (ZX q0 (ZX q2 (ZX q1 (ZX q3 Z6)))) mixed {loops:=[(0,[.reg 7 (.own (.ol 2 (.flat (.int .i64)))),.reg 8 (.dat (.int .i64))])]} (fn:=Tryz.f22) Tryz.func22 (by kernel_rfl) (by kernel_rfl) ?_
 rintro ⟨b0,e0,⟨⟩⟩ K ⟨r,h,hK⟩
 change Za8 b0 e0=some r at h
 unfold Za8 at h
 conv=>whnf
 refine XP h (fun l08Touched0 hb0 h=>?_)
 conv=>whnf
 refine XP h (fun l08Apply0 hb1 h=>?_)
 conv=>whnf
 intro fp2
 conv=>whnf
 intro fp3
 conv=>whnf
 intro fp4
 conv=>whnf
 refine XP h (fun l05Places0 hb5 h=>?_)
 conv=>whnf
 refine Zos h ?_
 rintro I6 μ6 ⟨out0,p0,⟨⟩⟩ zs6 h hI6 hR6
 change Vu l08Touched0 l05Places0 out0 p0=some zs6 at h
 unfold Vu at h
 conv=>whnf
 refine Zge h (fun h=>?_) (fun h=>?_)
 conv=>whnf
 refine vAt h (fun x0 he7a he7b he7x h=>?_)
 conv=>whnf
 refine ⟨by kernel_rfl,?_⟩
 conv=>whnf
 refine ⟨he7a,he7b,X0 he7x ?_⟩
 conv=>whnf
 refine XP h (fun l08Has0 hb8 h=>?_)
 conv=>whnf
 refine Zpe h (fun h=>?_) (fun h=>?_)
 conv=>whnf
 refine ZkR h (fun hp9 h=>?_)
 conv=>whnf
 cases h
 exact ⟨⟨rfl,rfl⟩,hI6 _ rfl⟩
 conv=>whnf
 cases h
 exact ⟨⟨rfl,rfl⟩,hI6 _ rfl⟩
 conv=>whnf
 cases h
 obtain rfl:=hR6 _ rfl
 exact hK
end Go.Proofs.YtdabmnfkcnkkbaaGreatDoor
