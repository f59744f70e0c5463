/-
  The functions keep their contracts, if what they call does. Printed by program.
-/
import Derived.Test.YtdabmnfkcnkkbaaGreatDoorM
import Derived.KernelRfl
namespace Go.Proofs.YtdabmnfkcnkkbaaGreatDoor
open Go Go.Sx
set_option maxRecDepth 100000
set_option maxHeartbeats 3200000
set_option linter.unusedVariables false
set_option linter.unusedSimpArgs false
structure Ws2:Prop where
 w176:ZV Tryz.prog 103 ZuM→ZV Tryz.prog 59 c138→ZV Tryz.prog 97 Ztq→ZV Tryz.prog 151 c173→ZV Tryz.prog 104 ZuN→ZV Tryz.prog 105 c175→ZV Tryz.prog 101 Zwn
 w156:ZV Tryz.prog 97 Ztq→ZV Tryz.prog 142 Zvs→ZV Tryz.prog 146 c156
 w172:ZV Tryz.prog 59 c138→ZV Tryz.prog 103 ZuM
 w122:ZV Tryz.prog 228 ZvZ→ZV Tryz.prog 231 Zv0
 w114:ZV Tryz.prog 240 c95→ZV Tryz.prog 241 ZvR→ZV Tryz.prog 242 ZvT→ZV Tryz.prog 243 ZvU→ZV Tryz.prog 230 ZuK→ZV Tryz.prog 134 c88→ZV Tryz.prog 227 ZvV
 w133:ZV Tryz.prog 140 c127→ZV Tryz.prog 134 c88→ZV Tryz.prog 164 Zv4→ZV Tryz.prog 129 Zv5
 w177:ZV Tryz.prog 59 c138→ZV Tryz.prog 152 Zwo
 w93:ZV Tryz.prog 143 c89→ZV Tryz.prog 204 c92→ZV Tryz.prog 163 c93
 w108:ZV Tryz.prog 250 c107→ZV Tryz.prog 241 ZvR
 w105:ZV Tryz.prog 252 ZvO→ZV Tryz.prog 253 ZvP→ZV Tryz.prog 251 c105
 w97:ZV Tryz.prog 134 c88→ZV Tryz.prog 167 c97
 w173:ZV Tryz.prog 151 c173
 w96:ZV Tryz.prog 133 c96
 w199:ZV Tryz.prog 62 ZwB→ZV Tryz.prog 63 c196→ZV Tryz.prog 64 c198→ZV Tryz.prog 30 ZwD
 w197:ZV Tryz.prog 110 ZwC
 w207:ZV Tryz.prog 15 c206→ZV Tryz.prog 155 ZwG
 w217:ZV Tryz.prog 15 c206→ZV Tryz.prog 36 ZwM
 w18:ZV Tryz.prog 17 c9→ZV Tryz.prog 18 c15→ZV Tryz.prog 19 c17→ZV Tryz.prog 4 c18
 w8:ZV Tryz.prog 69 c7→ZV Tryz.prog 37 c8
 w39:ZV Tryz.prog 26 c36→ZV Tryz.prog 8 c39
 w21:ZV Tryz.prog 160 c20→ZV Tryz.prog 125 c21
 w33:ZV Tryz.prog 91 c33
 w23:ZV Tryz.prog 54 c22→ZV Tryz.prog 225 c23
 w37:ZV Tryz.prog 26 c36→ZV Tryz.prog 25 c37
 w160:ZV Tryz.prog 96 c160
 w117:ZV Tryz.prog 244 c116→ZV Tryz.prog 228 c117
 w131:ZV Tryz.prog 165 c130→ZV Tryz.prog 205 c131
 w56:ZV Tryz.prog 75 c41→ZV Tryz.prog 73 c56
 w45:ZV Tryz.prog 249 c44→ZV Tryz.prog 239 c45
 w41:ZV Tryz.prog 75 c41
 w43:ZV Tryz.prog 75 c41→ZV Tryz.prog 259 c43
 w47:ZV Tryz.prog 75 c41→ZV Tryz.prog 223 c46→ZV Tryz.prog 197 c47
 w74:ZV Tryz.prog 159 c73→ZV Tryz.prog 121 c74
 w72:ZV Tryz.prog 224 c71→ZV Tryz.prog 199 c72
 w46:ZV Tryz.prog 239 c45→ZV Tryz.prog 223 c46
 w63:ZV Tryz.prog 119 c63
 w84:ZV Tryz.prog 82 c77→ZV Tryz.prog 47 c54→ZV Tryz.prog 83 c82→ZV Tryz.prog 84 c83→ZV Tryz.prog 85 c78→ZV Tryz.prog 86 c79→ZV Tryz.prog 87 c81→ZV Tryz.prog 88 c76→ZV Tryz.prog 48 c84
set_option maxHeartbeats 100000000 in
theorem ws2:Ws2:=by
 refine ⟨(fun q1 q2 q3 q0 q5 q4=>Z0 Xn (ZX q1 (ZX q2 (ZX q3 (ZX q0 (ZX q5 (ZX q4 Z6)))))) mixed {draws:=[(2,[0,1,3,7,15,0,32,127,255,0,1023],.op 0 (.op 1 (.op 2 (.op 3 (.op 5 (.op 6 (.alt 4 (.op 7 (.op 8 (.alt 9 (.alt 10 (.done) (.done)) (.done)))) (.alt 9 (.alt 4 (.op 7 (.op 8 (.alt 10 (.done) (.done)))) (.done)) (.done))))))))),(4,[0,1,3,7,15,31,0,64,192,448,960,2047,4095,8191],.op 0 (.op 1 (.op 2 (.op 3 (.op 4 (.op 6 (.op 7 (.op 8 (.op 9 (.op 10 (.alt 5 (.alt 11 (.op 12 (.op 13 (.done))) (.done)) (.done)))))))))))),(5,[0,0,2,6,14,30,0,64,0,256,0,1024,0,7168,16320,32704,65534,131071,262143,524287,1048575],.op 0 (.op 1 (.op 2 (.op 3 (.op 4 (.op 5 (.op 6 (.op 7 (.op 8 (.op 9 (.op 10 (.op 11 (.op 12 (.alt 13 (.op 14 (.alt 15 (.alt 16 (.op 17 (.op 18 (.op 19 (.alt 20 (.done) (.done))))) (.done)) (.done))) (.done))))))))))))))),(6,[0,0,2,6,14,30,0,64,192,510,1023,2047,4095,8191],.op 0 (.op 1 (.op 2 (.op 3 (.op 4 (.op 5 (.op 6 (.op 7 (.alt 8 (.alt 9 (.op 10 (.op 11 (.op 12 (.alt 13 (.done) (.done))))) (.done)) (.done))))))))))]} Tryz.func101 (hvc:=?_)),
 (fun q0 q1=>Z0 Ya (ZX q0 (ZX q1 Z6)) mixed {draws:=[(6,[0,1,3,0,8,31,63,127,255,511,1023,2047,4095,8191,1023,32767,65535,131071,262143,524287,1048575,2097151,262143,8388607,16777215,33554431,67108863,134217727,67108863,536870911,1073741823,67108863,2214592511,8589934591,17179869183],.op 0 (.op 1 (.op 2 (.op 3 (.op 4 (.op 5 (.op 6 (.alt 7 (.op 8 (.op 9 (.op 10 (.op 11 (.op 12 (.op 13 (.op 14 (.op 15 (.op 16 (.op 17 (.op 18 (.op 19 (.op 20 (.op 21 (.op 22 (.op 23 (.op 24 (.op 25 (.op 26 (.op 27 (.op 28 (.op 29 (.op 30 (.op 31 (.op 32 (.op 33 (.op 34 (.done)))))))))))))))))))))))))))) (.done)))))))))]} Tryz.func146 (hvc:=?_)),
 (fun q0=>Z0 Ya (ZX q0 Z6) mixed {loops:=[(0,[.reg 16 (.dat (.int .i64)),.entm 1 (Zpc.ty) (Zpc.ety),.ent 2 (nat_lit 3) (.flat Zqr.ety)])],draws:=[(7,[0,0,2,0,8,30,0,64,0,256,960,1984,4032,0,0,16384,57344,122880,262080,524224,1048575],.op 0 (.op 1 (.op 2 (.op 3 (.op 4 (.op 5 (.op 6 (.op 7 (.op 8 (.op 9 (.op 10 (.op 11 (.op 12 (.op 13 (.op 14 (.op 15 (.op 16 (.op 17 (.op 18 (.op 19 (.alt 20 (.done) (.done))))))))))))))))))))))]} Tryz.func103 (hvc:=?_)),
 (fun q0=>Z0 Ya (ZX q0 Z6) mixed {} Tryz.func231 (hvc:=?_)),
 (fun q4 q3 q2 q0 q1 q5=>Z0 Ya (ZX q4 (ZX q3 (ZX q2 (ZX q0 (ZX q1 (ZX q5 Z6)))))) mixed {draws:=[(2,[0,1,3,7,15,31,63,127,255,511,1023,2047,4095,8191,16383,32767,65535,32767,163839,524287,1048575,2097151,4194303,8388607,16777215,33554431,67108863,134217727,134217727,402653183,1073741823,2147483647,4294967295,8589934591,17179869183,8589934591,42949672959,137438953471,274877906943,549755813887],.op 0 (.op 1 (.op 2 (.op 3 (.op 4 (.op 5 (.op 6 (.op 7 (.op 8 (.op 9 (.op 10 (.op 11 (.alt 12 (.op 13 (.op 14 (.op 15 (.op 16 (.op 17 (.alt 18 (.op 19 (.op 20 (.op 21 (.op 22 (.op 23 (.op 24 (.op 25 (.op 26 (.op 27 (.op 28 (.op 29 (.alt 30 (.op 31 (.op 32 (.op 33 (.op 34 (.op 35 (.op 36 (.op 37 (.op 38 (.op 39 (.done)))))))))) (.done))))))))))))) (.done))))))) (.done)))))))))))))),(3,[0,1,3,7,15,31,63,127,255,511,1023,2047,4095,2047,10239,32767,65535,131071,262143,262143,786431,2097151,4194303,8388607],.op 0 (.op 1 (.alt 2 (.op 3 (.op 4 (.op 5 (.op 6 (.alt 7 (.op 8 (.op 9 (.op 10 (.op 11 (.op 12 (.op 13 (.alt 14 (.op 15 (.op 16 (.op 17 (.op 18 (.op 19 (.op 20 (.alt 21 (.op 22 (.op 23 (.done))) (.done)))))))) (.done)))))))) (.done)))))) (.done))))]} Tryz.func227 (hvc:=?_)),
 (fun q1 q2 q0=>Z0 Ya (ZX q1 (ZX q2 (ZX q0 Z6))) mixed {draws:=[(1,[0,1,0,4,12,28,63,127,255,511,1023,255,2303,255,8447,30975,63743,129279,260351,524287,1048575,2097151,4194303,8388607,4194303,33554431,67108863,134217727,268435455],.op 0 (.op 1 (.op 2 (.op 3 (.alt 4 (.op 5 (.alt 6 (.op 7 (.op 8 (.op 9 (.op 10 (.op 11 (.op 12 (.op 13 (.op 14 (.op 15 (.op 16 (.op 17 (.op 18 (.op 19 (.op 20 (.op 21 (.op 22 (.op 23 (.op 24 (.alt 25 (.op 26 (.op 27 (.op 28 (.done)))) (.done)))))))))))))))))))) (.done))) (.done))))))]} Tryz.func129 (hvc:=?_)),
 (fun q0=>Z0 Ya (ZX q0 Z6) mixed {loops:=[(0,[.reg 5 (.own (.ol 2 (.flat (.int .i64)))),.reg 11 (.dat (.int .i64))])]} Tryz.func152 (hvc:=?_)),
 (fun q1 q0=>Z0 Ya (ZX q1 (ZX q0 Z6)) mixed {loops:=[(0,[.reg 7 (.dat (.int .i64))])]} Tryz.func163 (hvc:=?_)),
 (fun q0=>Z0 Ya (ZX q0 Z6) mixed {} Tryz.func241 (hvc:=?_)),
 (fun q1 q0=>Z0 Ya (ZX q1 (ZX q0 Z6)) mixed {} Tryz.func251 (hvc:=?_)),
 (fun q0=>Z0 Ya (ZX q0 Z6) mixed {} Tryz.func167 (hvc:=?_)),
 (Z0 Ya Z6 mixed {} Tryz.func151 (hvc:=?_)),
 (Z0 Ya Z6 mixed {} Tryz.func133 (hvc:=?_)),
 (fun q0 q1 q2=>Z0 Ya (ZX q0 (ZX q1 (ZX q2 Z6))) mixed {} Tryz.func30 (hvc:=?_)),
 (Z0 Ya Z6 mixed {} Tryz.func110 (hvc:=?_)),
 (fun q0=>Z0 Xn (ZX q0 Z6) mixed {loops:=[(0,[.reg 1 (.dat (.int .i64)),.reg 5 (.dat (.int .i64)),.ent 0 (nat_lit 241) (Dp.pair (Dp.ol (2:Go.TypeId) (Dp.flat (Ty.int IntKind.i64))) (Dp.pair (Dp.ol (2:Go.TypeId) (Dp.flat (Ty.int IntKind.i64))) (Dp.pair (Dp.ol (2:Go.TypeId) (Dp.flat (Ty.int IntKind.i64))) (Dp.flat Ty.unit))))])]} Tryz.func155 (hvc:=?_)),
 (fun q0=>Z0 Xn (ZX q0 Z6) mixed {} Tryz.func36 (hvc:=?_)),
 (fun q0 q1 q2=>Z0 Ya (ZX q0 (ZX q1 (ZX q2 Z6))) mixed {} Tryz.func4 (hvc:=?_)),
 (fun q0=>Z0 Ya (ZX q0 Z6) mixed {loops:=[(0,[.reg 1 (.dat (.int .i64)),.reg 5 (.dat (.int .i64))])]} Tryz.func37 (hvc:=?_)),
 (fun q0=>Z0 Ya (ZX q0 Z6) mixed {} Tryz.func8 (hvc:=?_)),
 (fun q0=>Z0 Ya (ZX q0 Z6) mixed {loops:=[(0,[.reg 4 (.dat (.int .i64)),.ent 0 (nat_lit 168) (.flat ZsX.ety)])]} Tryz.func125 (hvc:=?_)),
 (Z0 Ya Z6 mixed {} Tryz.func91 (hvc:=?_)),
 (fun q0=>Z0 Ya (ZX q0 Z6) mixed {} Tryz.func225 (hvc:=?_)),
 (fun q0=>Z0 Xn (ZX q0 Z6) mixed {loops:=[(0,[.reg 4 (.dat (.int .i64)),.ent 0 (nat_lit 53) Zg8])]} Tryz.func25 (hvc:=?_)),
 (Z0 Ya Z6 mixed {} Tryz.func96 (hvc:=?_)),
 (fun q0=>Z0 Ya (ZX q0 Z6) mixed {} Tryz.func228 (hvc:=?_)),
 (fun q0=>Z0 Ya (ZX q0 Z6) mixed {loops:=[(0,[.reg 8 (.dat (.int .i64))])]} Tryz.func205 (hvc:=?_)),
 (fun q0=>Z0 Ya (ZX q0 Z6) mixed {loops:=[(0,[.reg 6 (.dat (.int .i64))]),(2,[.reg 7 (.dat (.int .i64))])]} Tryz.func73 (hvc:=?_)),
 (fun q0=>Z0 Ya (ZX q0 Z6) mixed {loops:=[(0,[.reg 5 (.dat (.int .i64)),.cell 1004 0 (.int .i64),.cell 1004 1 (.int .i64)])],draws:=[(3,[0,1,3,7,0,16,48,112,255,0,1023],.op 0 (.op 1 (.op 2 (.op 3 (.op 4 (.op 5 (.op 6 (.op 7 (.op 8 (.alt 9 (.alt 10 (.done) (.done)) (.done))))))))))),(7,[0,1,0,4,0,28,60,127,255,511],.op 0 (.op 1 (.op 2 (.op 3 (.op 4 (.op 5 (.op 6 (.op 7 (.op 8 (.alt 9 (.done) (.done))))))))))),(8,[0,1,0,4,0,28,60,127,255,511],.op 0 (.op 1 (.op 2 (.op 3 (.op 4 (.op 5 (.op 6 (.op 7 (.op 8 (.alt 9 (.done) (.done)))))))))))]} Tryz.func239 (hvc:=?_)),
 (Z0 Ya Z6 mixed {} Tryz.func75 (hvc:=?_)),
 (fun q0=>Z0 Ya (ZX q0 Z6) mixed {loops:=[(0,[.reg 3 (.dat (.int .i64))])],draws:=[(4,[0,0,3,7,15,31,63,127,255,511,1023,1023,3071,8191,16383,1023,1023,99327,230399,524287,1048575,2097151],.op 0 (.op 1 (.op 2 (.op 3 (.alt 4 (.op 5 (.op 6 (.op 7 (.op 8 (.op 9 (.op 10 (.op 11 (.op 12 (.op 13 (.op 14 (.op 15 (.op 16 (.op 17 (.op 18 (.op 19 (.op 20 (.op 21 (.done)))))))))))))))))) (.done))))))]} Tryz.func259 (hvc:=?_)),
 (fun q1 q0=>Z0 Ya (ZX q1 (ZX q0 Z6)) mixed {} Tryz.func197 (hvc:=?_)),
 (fun q0=>Z0 Xn (ZX q0 Z6) mixed {loops:=[(0,[.reg 4 (.dat (.int .i64)),.cello 1003 0 (.ol 133 (Zkg))])],draws:=[(5,[0,1,0,4,0,28,60,124,252,511,1023,2047],.op 0 (.op 1 (.op 2 (.op 3 (.op 4 (.op 5 (.op 6 (.alt 7 (.alt 8 (.alt 9 (.op 10 (.alt 11 (.done) (.done))) (.done)) (.done)) (.done)))))))))]} Tryz.func121 (hvc:=?_)),
 (fun q0=>Z0 Xn (ZX q0 Z6) mixed {loops:=[(0,[.reg 3 (.own (.ol 241 (Zds))),.reg 4 (.dat (.int .i64))])]} Tryz.func199 (hvc:=?_)),
 (fun q0=>Z0 Ya (ZX q0 Z6) mixed {loops:=[(0,[.reg 5 (.dat (.int .i64))])]} Tryz.func223 (hvc:=?_)),
 (Z0 Ya Z6 mixed {loops:=[(0,[.reg 5 (.dat (.int .i64))])]} Tryz.func119 (hvc:=?_)),
 (fun q7 q2 q3 q4 q6 q0 q5 q1=>Z0 Xn (ZX q7 (ZX q2 (ZX q3 (ZX q4 (ZX q6 (ZX q0 (ZX q5 (ZX q1 Z6)))))))) mixed {draws:=[(5,[0,1,3,0,0,16,56,120,248,0,512,2047,4095,8191],.op 0 (.op 1 (.op 2 (.op 3 (.op 4 (.op 5 (.op 6 (.op 7 (.op 8 (.op 9 (.op 10 (.op 11 (.op 12 (.alt 13 (.done) (.done))))))))))))))),(13,[0,1,0,0,8,28,60,0,128,511],.op 0 (.op 1 (.op 2 (.op 3 (.op 4 (.op 5 (.op 6 (.op 7 (.op 8 (.alt 9 (.done) (.done))))))))))),(16,[0,1,0,4,0,16,48,127,255],.op 0 (.op 1 (.op 2 (.op 3 (.op 4 (.op 5 (.alt 6 (.op 7 (.alt 8 (.done) (.done))) (.done))))))))]} Tryz.func48 (hvc:=?_))⟩
 all_goals
  intro a
  repeat rcases a with ⟨_,a⟩
  rintro K ⟨r,h,hK⟩
  repeat'
    conv=>whnf
    first
    | with_reducible refine Zp3 ?_
    | with_reducible refine ZdA (by assumption) (by assumption) (by assumption) ?_
    | with_reducible refine X0 (by assumption) ?_
    | with_reducible refine ZdD (by assumption) ?_
    | (with_reducible refine shD ?_);first | refine Zge h (fun h=>?_) (fun h=>?_) | refine Zpf h (fun h=>?_) (fun h=>?_)
    | (with_reducible refine Zqm ?_);first | refine ZrX ?_ | refine Zib ?_
    | (with_reducible refine Zuy ?_);first | refine Zpe h (fun h=>?_) (fun h=>?_) | refine Zqw h (fun h=>?_) (fun h=>?_)
    | (with_reducible refine Zql ?_);(refine ⟨fun hd=>?_,?_⟩)<;>try subst hd
    | (with_reducible refine ZuA ?_);first | with_reducible refine XP h (fun x hb h=>?_) | refine ZdD (by assumption) ?_ | with_reducible refine pG h (fun hp h=>?_) | with_reducible refine pA h (fun x ha hb hx h=>?_) | with_reducible refine pB h (fun x hb h=>?_) | refine XP h (fun x hb h=>?_)
    | (with_reducible refine Zux ?_);first | with_reducible refine vAt h (fun x ha hb hx h=>?_) | refine ZdA (by assumption) (by assumption) (by assumption) ?_ | with_reducible refine pG h (fun hp h=>?_) | with_reducible refine pA h (fun x ha hb hx h=>?_) | with_reducible refine pB h (fun x hb h=>?_) | refine vAt h (fun x ha hb hx h=>?_)
    | (with_reducible refine Zqk ?_);first | with_reducible refine ZkJ h (fun x hb h=>?_) | refine X0 (by assumption) ?_ | with_reducible refine pG h (fun hp h=>?_) | with_reducible refine pA h (fun x ha hb hx h=>?_) | with_reducible refine pB h (fun x hb h=>?_) | refine ZkJ h (fun x hb h=>?_)
    | with_reducible refine Zuz ?_
    | (with_reducible refine ZmW ?_);refine ZmY h hK ?_;clear h hK;intro I μ v r h hK;(repeat rcases v with ⟨_,v⟩);(try dsimp only at h)
    | with_reducible refine ⟨by assumption,?_⟩
    | with_reducible refine orL ?_
    | with_reducible refine .inr ?_
    | (with_reducible refine Zqn ?_);first | refine ⟨?_,True.intro⟩ | refine ⟨?_,?_⟩
    | refine ⟨by kernel_rfl,?_⟩
    | refine ⟨by decide,?_⟩
    | with_reducible refine ZkR h (fun hp h=>?_)
    | intro fp
    | exact trivial
    | with_reducible exact Zp0 h
    | (refine pS h (fun e=>?_));subst e;(repeat (first | exact hK | exact ⟨⟨rfl,rfl⟩,hK.1 _ rfl⟩ | (refine pR hK (fun e hK=>?_));subst e));done
    | refine ZkR h (fun hp h=>?_)
    | refine ⟨by assumption,?_⟩
    | with_reducible refine pG h (fun hp h=>?_) | with_reducible refine pA h (fun x ha hb hx h=>?_) | with_reducible refine pB h (fun x hb h=>?_)
    | refine pG h (fun hp h=>?_)
    | fail
theorem Zzy:ZV Tryz.prog 107 Zwr:=by
 refine Z0 Ya Z6 mixed {loops:=[(0,[.reg 8 (.dat (.int .i64))])]} (fn:=Tryz.f107) Tryz.func107 (by kernel_rfl) (by kernel_rfl) ?_
 rintro ⟨s0,v0,⟨⟩⟩ K ⟨r,h,hK⟩
 change XU s0 v0=some r at h
 unfold XU at h
 conv=>whnf
 refine Zos h ?_
 rintro I0 μ0 ⟨v1,⟨⟩⟩ zs0 h hI0 hR0
 change Y8 s0 v0 v1=some zs0 at h
 unfold Y8 at h
 conv=>whnf
 refine Zge h (fun h=>?_) (fun h=>?_)
 conv=>whnf
 refine vAt h (fun x0 he1a he1b he1x h=>?_)
 conv=>whnf
 refine Zge h (fun h=>?_) (fun h=>?_)
 conv=>whnf
 cases h
 obtain rfl:=hR0 _ rfl
 exact hK
 conv=>whnf
 cases h
 exact ⟨⟨rfl,rfl⟩,hI0 _ rfl⟩
 conv=>whnf
 cases h
 obtain rfl:=hR0 _ rfl
 exact hK
end Go.Proofs.YtdabmnfkcnkkbaaGreatDoor
