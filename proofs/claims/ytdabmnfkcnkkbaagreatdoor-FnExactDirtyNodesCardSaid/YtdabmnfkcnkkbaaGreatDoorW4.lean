/-
  The functions keep their contracts, if what they call does. Printed by program.
-/
import Derived.Test.YtdabmnfkcnkkbaaGreatDoorM
import Derived.KernelRfl
namespace Go.Proofs.YtdabmnfkcnkkbaaGreatDoor
open Go Go.Sx
set_option maxRecDepth 100000
set_option maxHeartbeats 3200000
set_option linter.unusedVariables false
set_option linter.unusedSimpArgs false
structure Ws4:Prop where
 w174:ZV Tryz.prog 104 ZuN
 w113:ZV Tryz.prog 230 ZuK→ZV Tryz.prog 134 c88→ZV Tryz.prog 243 ZvU
 w126:ZV Tryz.prog 163 c93→ZV Tryz.prog 128 Zv3
 w130:ZV Tryz.prog 130 ZuL→ZV Tryz.prog 165 c130
 w155:ZV Tryz.prog 175 c91→ZV Tryz.prog 145 Zwg
 w179:ZV Tryz.prog 100 c171→ZV Tryz.prog 59 c138→ZV Tryz.prog 101 Zwn→ZV Tryz.prog 102 Zwp→ZV Tryz.prog 103 ZuM→ZV Tryz.prog 104 ZuN→ZV Tryz.prog 105 c175→ZV Tryz.prog 106 Zvt→ZV Tryz.prog 58 Zwq
 w147:ZV Tryz.prog 134 c88→ZV Tryz.prog 138 Zwa→ZV Tryz.prog 137 c145→ZV Tryz.prog 59 c138→ZV Tryz.prog 139 c146→ZV Tryz.prog 140 c127→ZV Tryz.prog 130 ZuL→ZV Tryz.prog 133 c96→ZV Tryz.prog 94 Zwc
 w157:ZV Tryz.prog 59 c138→ZV Tryz.prog 141 Zwe→ZV Tryz.prog 142 Zvs→ZV Tryz.prog 143 c89→ZV Tryz.prog 144 c154→ZV Tryz.prog 145 Zwg→ZV Tryz.prog 146 c156→ZV Tryz.prog 133 c96→ZV Tryz.prog 93 Zvr→ZV Tryz.prog 95 c157
 w152:ZV Tryz.prog 174 c152
 w139:ZV Tryz.prog 134 c88→ZV Tryz.prog 135 c139
 w100:ZV Tryz.prog 164 c99→ZV Tryz.prog 136 Zur
 w148:ZV Tryz.prog 170 c148
 w88:ZV Tryz.prog 134 c88
 w190:ZV Tryz.prog 194 Zwx→ZV Tryz.prog 154 Zwy
 w191:ZV Tryz.prog 153 Zwu→ZV Tryz.prog 154 Zwy→ZV Tryz.prog 10 Ztr→ZV Tryz.prog 108 Zwz
 w185:ZV Tryz.prog 193 Zwt
 w196:ZV Tryz.prog 63 c196
 w188:ZV Tryz.prog 238 Zwv→ZV Tryz.prog 221 Zww
 w5:ZV Tryz.prog 195 c4→ZV Tryz.prog 157 c5
 w15:ZV Tryz.prog 38 c11→ZV Tryz.prog 39 c12→ZV Tryz.prog 40 c14→ZV Tryz.prog 18 c15
 w13:ZV Tryz.prog 71 c13
 w14:ZV Tryz.prog 71 c13→ZV Tryz.prog 40 c14
 w12:ZV Tryz.prog 39 c12
 w3:ZV Tryz.prog 41 c2→ZV Tryz.prog 222 c3
 w31:ZV Tryz.prog 90 c30→ZV Tryz.prog 51 c31
 w22:ZV Tryz.prog 54 c22
 w20:ZV Tryz.prog 160 c20
 w167:ZV Tryz.prog 191 c167
 w132:ZV Tryz.prog 205 c131→ZV Tryz.prog 164 Zv4
 w120:ZV Tryz.prog 245 c119→ZV Tryz.prog 244 ZvY
 w91:ZV Tryz.prog 175 c91
 w68:ZV Tryz.prog 42 c57→ZV Tryz.prog 43 c58→ZV Tryz.prog 44 c59→ZV Tryz.prog 45 c67→ZV Tryz.prog 21 c68
 w51:ZV Tryz.prog 75 c41→ZV Tryz.prog 117 c51
 w60:ZV Tryz.prog 76 c60
 w79:ZV Tryz.prog 86 c79
 w78:ZV Tryz.prog 47 c54→ZV Tryz.prog 74 c55→ZV Tryz.prog 85 c78
 w83:ZV Tryz.prog 85 c78→ZV Tryz.prog 74 c55→ZV Tryz.prog 47 c54→ZV Tryz.prog 86 c79→ZV Tryz.prog 123 c70→ZV Tryz.prog 87 c81→ZV Tryz.prog 84 c83
set_option maxHeartbeats 100000000 in
theorem ws4:Ws4:=by
 refine ⟨(Z0 Xn Z6 mixed {draws:=[(2,[0,1,3,7,15,0,32,0,255,511,1023],.op 0 (.op 1 (.op 2 (.op 3 (.op 4 (.op 5 (.op 6 (.op 7 (.op 8 (.op 9 (.alt 10 (.done) (.done)))))))))))),(3,[0,1,3,7,15,0,32,127,255,511,0,1024,0,8191,16383],.op 0 (.op 1 (.op 2 (.op 3 (.op 4 (.op 5 (.op 6 (.op 7 (.op 8 (.op 9 (.op 10 (.op 11 (.op 12 (.op 13 (.alt 14 (.done) (.done))))))))))))))))]} Tryz.func104 (hvc:=?_)),
 (fun q0 q1=>Z0 Ya (ZX q0 (ZX q1 Z6)) mixed {} Tryz.func243 (hvc:=?_)),
 (fun q0=>Z0 Ya (ZX q0 Z6) mixed {loops:=[(0,[.reg 3 (.own (.ol 9 (.flat (.str)))),.reg 12 (.dat (.int .i64))]),(2,[.reg 4 (.own (.ol 9 (.flat (.str)))),.reg 25 (.dat (.int .i64))])]} Tryz.func128 (hvc:=?_)),
 (fun q0=>Z0 Ya (ZX q0 Z6) mixed {} Tryz.func165 (hvc:=?_)),
 (fun q0=>Z0 Ya (ZX q0 Z6) mixed {} Tryz.func145 (hvc:=?_)),
 (fun q6 q1 q4 q0 q2 q5 q3 q7=>Z0 Xn (ZX q6 (ZX q1 (ZX q4 (ZX q0 (ZX q2 (ZX q5 (ZX q3 (ZX q7 Z6)))))))) mixed {draws:=[(4,[0,1,3,0,8,24,0,64,248,504,1016,0,2048,8191,16383,32767],.op 0 (.op 1 (.op 2 (.op 3 (.op 4 (.op 6 (.op 7 (.op 11 (.op 12 (.alt 5 (.op 8 (.op 9 (.op 10 (.op 13 (.op 14 (.alt 15 (.done) (.done))))))) (.done))))))))))),(11,[0,1,3,0,8,31,63,0,255],.op 0 (.op 1 (.op 3 (.op 4 (.alt 2 (.op 5 (.op 6 (.alt 7 (.alt 8 (.done) (.done)) (.done)))) (.alt 7 (.alt 2 (.op 5 (.op 6 (.alt 8 (.done) (.done)))) (.done)) (.done))))))),(17,[0,1,0,4,0,16,48,127,255],.op 0 (.op 1 (.op 2 (.op 3 (.op 4 (.op 5 (.alt 6 (.op 7 (.alt 8 (.done) (.done))) (.done))))))))]} Tryz.func58 (hvc:=?_)),
 (fun q7 q5 q6 q2 q0 q1 q3 q4=>Z0 Ya (ZX q7 (ZX q5 (ZX q6 (ZX q2 (ZX q0 (ZX q1 (ZX q3 (ZX q4 Z6)))))))) mixed {draws:=[(1,[0,1,3,7,15,31,31,95,255,511,1023],.op 0 (.op 1 (.alt 2 (.op 3 (.op 4 (.op 5 (.op 6 (.alt 7 (.alt 8 (.op 9 (.op 10 (.done))) (.done)) (.done)))))) (.done)))),(3,[0,1,0,4,12,28,60,127,255],.op 0 (.op 1 (.op 2 (.op 3 (.alt 4 (.alt 5 (.op 6 (.alt 7 (.op 8 (.done)) (.done))) (.done)) (.done)))))),(7,[0,1,3,7,3,19,51,115,243,511,1023,2047],.op 0 (.op 1 (.op 2 (.op 3 (.op 4 (.op 5 (.op 6 (.alt 7 (.op 8 (.alt 9 (.op 10 (.op 11 (.done))) (.done))) (.done))))))))),(9,[0,1,3,7,3,19,63,127,255,511,1023,511,2559,511,8703,31231,63999,129535,260607,522751,1048575,2097151,4194303],.op 0 (.op 1 (.op 2 (.op 3 (.op 4 (.op 5 (.alt 6 (.op 7 (.op 8 (.op 9 (.op 10 (.op 11 (.op 12 (.op 13 (.op 14 (.op 15 (.op 16 (.op 17 (.alt 18 (.op 19 (.alt 20 (.op 21 (.op 22 (.done))) (.done))) (.done))))))))))))) (.done))))))))]} Tryz.func94 (hvc:=?_)),
 (fun q2 q5 q6 q7 q3 q1 q0 q4 q8=>Z0 Ya (ZX q2 (ZX q5 (ZX q6 (ZX q7 (ZX q3 (ZX q1 (ZX q0 (ZX q4 (ZX q8 Z6))))))))) mixed {draws:=[(6,[0,1,3,7,15,31,63,127,255,511,1023,255,2303,255,8447,30975,63743,129279,262143,524287,255,1048831,3145983,255,8388863,32506111,66060543,134217727,268435455,536870911],.op 0 (.op 1 (.op 2 (.op 3 (.op 4 (.op 5 (.op 6 (.op 7 (.op 8 (.op 9 (.op 10 (.op 11 (.op 12 (.op 13 (.op 14 (.op 15 (.op 16 (.op 17 (.op 18 (.op 19 (.op 20 (.op 21 (.op 22 (.op 23 (.op 24 (.op 25 (.op 26 (.alt 27 (.op 28 (.op 29 (.done))) (.done))))))))))))))))))))))))))))),(12,[0,0,2,7,15,31,63,127,255,255,767,2047,4095,8191,255,16639,65535,131071,262143],.op 0 (.op 1 (.op 2 (.op 3 (.op 4 (.op 5 (.op 6 (.op 7 (.op 8 (.op 9 (.op 10 (.op 11 (.op 12 (.op 13 (.op 14 (.op 15 (.op 16 (.op 17 (.op 18 (.done)))))))))))))))))))),(13,[0,1,0,4,0,16,60,124,252,508,1023,2047],.op 0 (.op 1 (.op 2 (.op 3 (.op 4 (.op 5 (.op 6 (.op 7 (.op 8 (.alt 9 (.alt 10 (.op 11 (.done)) (.done)) (.done)))))))))))]} Tryz.func95 (hvc:=?_)),
 (Z0 Ya Z6 mixed {} Tryz.func174 (hvc:=?_)),
 (fun q0=>Z0 Ya (ZX q0 Z6) mixed {loops:=[(0,[.reg 8 (.dat (.int .i64))])]} Tryz.func135 (hvc:=?_)),
 (fun q0=>Z0 Ya (ZX q0 Z6) mixed {} Tryz.func136 (hvc:=?_)),
 (Z0 Ya Z6 mixed {} Tryz.func170 (hvc:=?_)),
 (Z0 Ya Z6 mixed {} Tryz.func134 (hvc:=?_)),
 (fun q0=>Z0 Ya (ZX q0 Z6) mixed {loops:=[(0,[.reg 5 (.dat (.int .i64))])],draws:=[(6,[0,0,3,7,0,0,48,112,255,511],.op 0 (.op 1 (.op 2 (.op 3 (.op 4 (.op 5 (.op 6 (.op 7 (.alt 8 (.op 9 (.done)) (.done))))))))))]} Tryz.func154 (hvc:=?_)),
 (fun q1 q2 q0=>Z0 Ya (ZX q1 (ZX q2 (ZX q0 Z6))) mixed {} Tryz.func108 (hvc:=?_)),
 (Z0 Ya Z6 mixed {} Tryz.func193 (hvc:=?_)),
 (Z0 Ya Z6 mixed {loops:=[(0,[.reg 5 (.dat (.int .i64))])],draws:=[(6,[0,0,3,7,0,0,48,112,255],.op 0 (.op 1 (.op 2 (.op 3 (.op 4 (.op 5 (.op 6 (.op 7 (.op 8 (.done))))))))))]} Tryz.func63 (hvc:=?_)),
 (fun q0=>Z0 Ya (ZX q0 Z6) mixed {loops:=[(0,[.reg 5 (.dat (.int .i64))])],draws:=[(6,[0,0,3,7,0,0,48,112,255,511],.op 0 (.op 1 (.op 2 (.op 3 (.op 4 (.op 5 (.op 6 (.op 7 (.alt 8 (.op 9 (.done)) (.done))))))))))]} Tryz.func221 (hvc:=?_)),
 (fun q0=>Z0 Ya (ZX q0 Z6) mixed {} Tryz.func157 (hvc:=?_)),
 (fun q0 q1 q2=>Z0 Ya (ZX q0 (ZX q1 (ZX q2 Z6))) mixed {} Tryz.func18 (hvc:=?_)),
 (Z0 Ya Z6 mixed {} Tryz.func71 (hvc:=?_)),
 (fun q0=>Z0 Ya (ZX q0 Z6) mixed {loops:=[(0,[.reg 1 (.dat (.int .i64)),.reg 5 (.dat (.int .i64))])]} Tryz.func40 (hvc:=?_)),
 (Z0 Ya Z6 mixed {loops:=[(0,[.reg 1 (.dat (.int .i64)),.reg 5 (.dat (.int .i64))])]} Tryz.func39 (hvc:=?_)),
 (fun q0=>Z0 Ya (ZX q0 Z6) mixed {} Tryz.func222 (hvc:=?_)),
 (fun q0=>Z0 Xn (ZX q0 Z6) mixed {loops:=[(0,[.reg 4 (.dat (.int .i64)),.ent 0 (nat_lit 134) Zat])]} Tryz.func51 (hvc:=?_)),
 (Z0 Ya Z6 mixed {loops:=[(0,[.reg 4 (.dat (.int .i64)),.ent 0 (nat_lit 2) (.flat Zr8.ety)])]} Tryz.func54 (hvc:=?_)),
 (Z0 Ya Z6 mixed {} Tryz.func160 (hvc:=?_)),
 (Z0 Ya Z6 mixed {} Tryz.func191 (hvc:=?_)),
 (fun q0=>Z0 Ya (ZX q0 Z6) mixed {} Tryz.func164 (hvc:=?_)),
 (fun q0=>Z0 Ya (ZX q0 Z6) mixed {loops:=[(0,[.reg 8 (.dat (.int .i64))])]} Tryz.func244 (hvc:=?_)),
 (Z0 Ya Z6 mixed {loops:=[(0,[.reg 8 (.dat (.int .i64))])]} Tryz.func175 (hvc:=?_)),
 (fun q3 q0 q1 q2=>Z0 Ya (ZX q3 (ZX q0 (ZX q1 (ZX q2 Z6)))) mixed {} Tryz.func21 (hvc:=?_)),
 (fun q0=>Z0 Ya (ZX q0 Z6) mixed {loops:=[(0,[.reg 6 (.dat (.int .i64))]),(2,[.reg 8 (.dat (.int .i64))]),(4,[.reg 9 (.dat (.int .i64))])],draws:=[(6,[0,1,0,4,12,28,63,127,255,511,1023,2047,511,4607,511,16895,61951,127487,258559,520703,1048575,2097151],.op 0 (.op 1 (.op 2 (.op 3 (.op 4 (.op 5 (.alt 6 (.op 7 (.op 8 (.op 9 (.op 10 (.op 11 (.op 12 (.op 13 (.op 14 (.op 15 (.op 16 (.op 17 (.op 18 (.op 19 (.op 20 (.op 21 (.done)))))))))))))))) (.done))))))))]} Tryz.func117 (hvc:=?_)),
 (Z0 Ya Z6 mixed {loops:=[(0,[.reg 5 (.dat (.int .i64))])],draws:=[(6,[0,1,0,7,15,31,0,64,0,448,960,1984,4095],.op 0 (.op 1 (.op 2 (.op 3 (.op 4 (.op 5 (.op 6 (.op 7 (.op 8 (.op 9 (.op 10 (.op 11 (.op 12 (.done))))))))))))))]} Tryz.func76 (hvc:=?_)),
 (Z0 Xn Z6 mixed {draws:=[(3,[0,1,0,4,15,31,63,0,128,0,1023,2047],.op 0 (.op 1 (.op 2 (.op 3 (.op 4 (.op 5 (.op 6 (.op 7 (.op 8 (.op 9 (.op 10 (.alt 11 (.done) (.done)))))))))))))]} Tryz.func86 (hvc:=?_)),
 (fun q0 q1=>Z0 Ya (ZX q0 (ZX q1 Z6)) mixed {loops:=[(0,[.reg 4 (.dat (.int .i64)),.ent 2 (nat_lit 2) (.flat Zr8.ety)]),(2,[.reg 6 (.dat (.int .i64)),.ent 2 (nat_lit 2) (.flat Zr8.ety)])],draws:=[(9,[0,0,0,6,14,0,32,0,224,480,992,0,4064,8160,16383,32767],.op 0 (.op 1 (.op 2 (.op 3 (.op 4 (.op 5 (.op 6 (.op 7 (.op 8 (.op 9 (.op 10 (.op 11 (.op 12 (.op 13 (.op 14 (.alt 15 (.done) (.done)))))))))))))))))]} Tryz.func85 (hvc:=?_)),
 (fun q3 q4 q1 q0 q5 q2=>Z0 ZrT (ZX q3 (ZX q4 (ZX q1 (ZX q0 (ZX q5 (ZX q2 Z6)))))) mixed {draws:=[(7,[0,1,0,4,12,0,60,124,0,256,768,0,3840,7936,16128,32512,65280,131071],.op 0 (.op 1 (.op 2 (.op 3 (.op 5 (.op 8 (.op 9 (.op 10 (.op 11 (.op 12 (.op 13 (.op 14 (.op 15 (.op 16 (.alt 4 (.op 6 (.op 7 (.alt 17 (.done) (.done)))) (.done)))))))))))))))),(8,[0,0,2,7,15,0,0,96,255,511],.op 0 (.op 1 (.op 2 (.op 5 (.op 6 (.alt 3 (.alt 4 (.alt 7 (.alt 8 (.op 9 (.done)) (.done)) (.done)) (.alt 7 (.alt 4 (.alt 8 (.op 9 (.done)) (.done)) (.done)) (.done))) (.alt 7 (.alt 3 (.alt 4 (.alt 8 (.op 9 (.done)) (.done)) (.done)) (.done)) (.done)))))))),(9,[0,1,3,0,15,0,32,96,0,480,0,1024,3072,8191,0,32767],.op 0 (.op 1 (.op 2 (.op 3 (.op 5 (.op 6 (.op 7 (.op 8 (.op 10 (.op 11 (.op 12 (.alt 4 (.alt 9 (.op 13 (.alt 14 (.alt 15 (.done) (.done)) (.done))) (.alt 14 (.alt 9 (.op 13 (.alt 15 (.done) (.done))) (.done)) (.done))) (.alt 9 (.alt 4 (.op 13 (.alt 14 (.alt 15 (.done) (.done)) (.done))) (.alt 14 (.alt 4 (.op 13 (.alt 15 (.done) (.done))) (.done)) (.done))) (.alt 14 (.alt 4 (.alt 9 (.op 13 (.alt 15 (.done) (.done))) (.done)) (.alt 9 (.alt 4 (.op 13 (.alt 15 (.done) (.done))) (.done)) (.done))) (.done))))))))))))))),(10,[0,1,0,0,8,0,56,127,0,511,1023],.op 0 (.op 1 (.op 2 (.op 3 (.op 4 (.op 5 (.op 8 (.alt 6 (.op 7 (.alt 9 (.alt 10 (.done) (.done)) (.done))) (.done)))))))))]} Tryz.func84 (hvc:=?_))⟩
 all_goals
  intro a
  repeat rcases a with ⟨_,a⟩
  rintro K ⟨r,h,hK⟩
  repeat'
    conv=>whnf
    first
    | with_reducible refine Zp3 ?_
    | with_reducible refine ZdA (by assumption) (by assumption) (by assumption) ?_
    | with_reducible refine X0 (by assumption) ?_
    | with_reducible refine ZdD (by assumption) ?_
    | (with_reducible refine shD ?_);first | refine Zge h (fun h=>?_) (fun h=>?_) | refine Zpf h (fun h=>?_) (fun h=>?_)
    | (with_reducible refine Zqm ?_);first | refine ZrX ?_ | refine Zib ?_
    | (with_reducible refine Zuy ?_);first | refine Zpe h (fun h=>?_) (fun h=>?_) | refine Zqw h (fun h=>?_) (fun h=>?_)
    | (with_reducible refine Zql ?_);(refine ⟨fun hd=>?_,?_⟩)<;>try subst hd
    | (with_reducible refine ZuA ?_);first | with_reducible refine XP h (fun x hb h=>?_) | refine ZdD (by assumption) ?_ | with_reducible refine pG h (fun hp h=>?_) | with_reducible refine pA h (fun x ha hb hx h=>?_) | with_reducible refine pB h (fun x hb h=>?_) | refine XP h (fun x hb h=>?_)
    | (with_reducible refine Zux ?_);first | with_reducible refine vAt h (fun x ha hb hx h=>?_) | refine ZdA (by assumption) (by assumption) (by assumption) ?_ | with_reducible refine pG h (fun hp h=>?_) | with_reducible refine pA h (fun x ha hb hx h=>?_) | with_reducible refine pB h (fun x hb h=>?_) | refine vAt h (fun x ha hb hx h=>?_)
    | (with_reducible refine Zqk ?_);first | with_reducible refine ZkJ h (fun x hb h=>?_) | refine X0 (by assumption) ?_ | with_reducible refine pG h (fun hp h=>?_) | with_reducible refine pA h (fun x ha hb hx h=>?_) | with_reducible refine pB h (fun x hb h=>?_) | refine ZkJ h (fun x hb h=>?_)
    | with_reducible refine Zuz ?_
    | (with_reducible refine ZmW ?_);refine ZmY h hK ?_;clear h hK;intro I μ v r h hK;(repeat rcases v with ⟨_,v⟩);(try dsimp only at h)
    | with_reducible refine ⟨by assumption,?_⟩
    | with_reducible refine orL ?_
    | with_reducible refine .inr ?_
    | (with_reducible refine Zqn ?_);first | refine ⟨?_,True.intro⟩ | refine ⟨?_,?_⟩
    | refine ⟨by kernel_rfl,?_⟩
    | refine ⟨by decide,?_⟩
    | with_reducible refine ZkR h (fun hp h=>?_)
    | intro fp
    | exact trivial
    | with_reducible exact Zp0 h
    | (refine pS h (fun e=>?_));subst e;(repeat (first | exact hK | exact ⟨⟨rfl,rfl⟩,hK.1 _ rfl⟩ | (refine pR hK (fun e hK=>?_));subst e));done
    | refine ZkR h (fun hp h=>?_)
    | refine ⟨by assumption,?_⟩
    | with_reducible refine pG h (fun hp h=>?_) | with_reducible refine pA h (fun x ha hb hx h=>?_) | with_reducible refine pB h (fun x hb h=>?_)
    | refine pG h (fun hp h=>?_)
    | fail
theorem w87 (q0:ZV Tryz.prog 21 c68) (q1:ZV Tryz.prog 22 c86):ZV Tryz.prog 6 c87:=by
 refine Z0 Ya (ZX q0 (ZX q1 Z6)) mixed {} (fn:=Tryz.f6) Tryz.func6 (by kernel_rfl) (by kernel_rfl) ?_
 rintro ⟨b0,e0,⟨⟩⟩ K ⟨r,h,hK⟩
 change Jq b0 e0=some r at h
 unfold Jq at h
 conv=>whnf
 refine XP h (fun EditCode0 hb0 h=>?_)
 conv=>whnf
 refine Zib ?_
 refine Zge h (fun h=>?_) (fun h=>?_)
 conv=>whnf
 refine XP h (fun l32Dirty0 hb1 h=>?_)
 conv=>whnf
 cases h
 exact hK
 conv=>whnf
 cases h
 exact hK
end Go.Proofs.YtdabmnfkcnkkbaaGreatDoor
