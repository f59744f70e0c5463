/-
  The functions keep their contracts, if what they call does. Printed by program.
-/
import Derived.Test.YtdabmnfkcnkkbaaGreatDoorM
import Derived.KernelRfl
namespace Go.Proofs.YtdabmnfkcnkkbaaGreatDoor
open Go Go.Sx
set_option maxRecDepth 100000
set_option maxHeartbeats 3200000
set_option linter.unusedVariables false
set_option linter.unusedSimpArgs false
structure Ws3:Prop where
 w178:ZV Tryz.prog 103 ZuM→ZV Tryz.prog 59 c138→ZV Tryz.prog 97 Ztq→ZV Tryz.prog 152 Zwo→ZV Tryz.prog 104 ZuN→ZV Tryz.prog 105 c175→ZV Tryz.prog 102 Zwp
 w118:ZV Tryz.prog 227 ZvV→ZV Tryz.prog 228 c117→ZV Tryz.prog 202 ZvX
 w111:ZV Tryz.prog 254 ZvS→ZV Tryz.prog 242 ZvT
 w123:ZV Tryz.prog 230 ZuK→ZV Tryz.prog 136 Zur→ZV Tryz.prog 231 Zv0→ZV Tryz.prog 203 Zv1
 w129:ZV Tryz.prog 97 Ztq→ZV Tryz.prog 134 c88→ZV Tryz.prog 130 ZuL
 w138:ZV Tryz.prog 59 c138
 w158:ZV Tryz.prog 94 Zwc→ZV Tryz.prog 95 c157→ZV Tryz.prog 56 Zwh
 w141:ZV Tryz.prog 92 Zv9→ZV Tryz.prog 59 c138→ZV Tryz.prog 93 Zvr→ZV Tryz.prog 55 c141
 w137:ZV Tryz.prog 127 Zv2→ZV Tryz.prog 128 Zv3→ZV Tryz.prog 129 Zv5→ZV Tryz.prog 130 ZuL→ZV Tryz.prog 131 Zv8→ZV Tryz.prog 92 Zv9
 w134:ZV Tryz.prog 132 Zv6
 w170:ZV Tryz.prog 96 c160→ZV Tryz.prog 106 Zvt
 w102:ZV Tryz.prog 133 c96→ZV Tryz.prog 134 c88→ZV Tryz.prog 136 Zur→ZV Tryz.prog 262 ZvM→ZV Tryz.prog 261 ZvN
 w95:ZV Tryz.prog 240 c95
 w101:ZV Tryz.prog 262 ZvM
 w144:ZV Tryz.prog 206 c143→ZV Tryz.prog 168 Zwb
 w189:ZV Tryz.prog 221 Zww→ZV Tryz.prog 194 Zwx
 w216:ZV Tryz.prog 33 c210→ZV Tryz.prog 34 ZwJ→ZV Tryz.prog 35 ZwK→ZV Tryz.prog 13 ZwL
 w209:ZV Tryz.prog 111 Zts→ZV Tryz.prog 112 ZwF→ZV Tryz.prog 113 c208→ZV Tryz.prog 15 c206→ZV Tryz.prog 65 ZwH
 w211:ZV Tryz.prog 111 Zts→ZV Tryz.prog 15 c206→ZV Tryz.prog 66 ZwI
 w210:ZV Tryz.prog 65 ZwH→ZV Tryz.prog 33 c210
 w213:ZV Tryz.prog 111 Zts→ZV Tryz.prog 68 c213
 w7:ZV Tryz.prog 114 c1→ZV Tryz.prog 115 c6→ZV Tryz.prog 41 c2→ZV Tryz.prog 69 c7
 w2:ZV Tryz.prog 41 c2
 w27:ZV Tryz.prog 125 c21→ZV Tryz.prog 126 c26→ZV Tryz.prog 54 c22→ZV Tryz.prog 89 c27
 w35:ZV Tryz.prog 51 c31→ZV Tryz.prog 52 c32→ZV Tryz.prog 53 c34→ZV Tryz.prog 24 c35
 w168:ZV Tryz.prog 192 c168
 w99:ZV Tryz.prog 205 c98→ZV Tryz.prog 164 c99
 w143:ZV Tryz.prog 206 c143
 w135:ZV Tryz.prog 132 Zv6→ZV Tryz.prog 166 Zv7
 w53:ZV Tryz.prog 116 c50→ZV Tryz.prog 117 c51→ZV Tryz.prog 118 c52→ZV Tryz.prog 72 c53
 w70:ZV Tryz.prog 123 c70
 w48:ZV Tryz.prog 198 c48
 w54:ZV Tryz.prog 47 c54
 w80:ZV Tryz.prog 124 c80
 w77:ZV Tryz.prog 121 c74→ZV Tryz.prog 122 c75→ZV Tryz.prog 88 c76→ZV Tryz.prog 82 c77
set_option maxHeartbeats 100000000 in
theorem ws3:Ws3:=by
 refine ⟨(fun q0 q1 q2 q4 q5 q3=>Z0 ZrT (ZX q0 (ZX q1 (ZX q2 (ZX q4 (ZX q5 (ZX q3 Z6)))))) mixed {draws:=[(4,[0,0,2,6,14,0,32,96,224,480,992,2016,4094,8190,16382,32767,65535,0,262143],.op 0 (.op 1 (.op 2 (.op 3 (.op 4 (.op 5 (.op 6 (.op 7 (.op 8 (.op 9 (.alt 10 (.op 11 (.alt 12 (.op 13 (.op 14 (.op 15 (.op 16 (.alt 17 (.alt 18 (.done) (.done)) (.done)))))) (.alt 17 (.alt 12 (.op 13 (.op 14 (.op 15 (.op 16 (.alt 18 (.done) (.done)))))) (.done)) (.done)))) (.alt 17 (.alt 10 (.op 11 (.alt 12 (.op 13 (.op 14 (.op 15 (.op 16 (.alt 18 (.done) (.done)))))) (.done))) (.done)) (.done))))))))))))),(6,[0,0,0,0,8,28,63],.op 0 (.op 2 (.op 3 (.op 4 (.alt 1 (.alt 5 (.alt 6 (.done) (.done)) (.done)) (.alt 5 (.alt 1 (.alt 6 (.done) (.done)) (.done)) (.done))))))),(7,[0,0,0,4,12,28,60,0,252,508,1020,2044,4092,8191],.op 0 (.op 1 (.op 2 (.op 3 (.op 4 (.op 5 (.op 6 (.op 7 (.op 8 (.op 9 (.op 10 (.op 11 (.op 12 (.alt 13 (.done) (.done))))))))))))))),(9,[0,0,2,6,14,30,0,64,192,448,960,1984,4032,8190,16383,32767,65535,131071],.op 0 (.op 1 (.op 2 (.op 3 (.op 4 (.op 5 (.op 6 (.op 7 (.op 8 (.op 9 (.op 10 (.op 11 (.op 12 (.alt 13 (.op 14 (.op 15 (.op 16 (.alt 17 (.done) (.done))))) (.done))))))))))))))),(10,[0,0,2,6,14,0,32,96,224,480,992,2046,4095,8191,16383],.op 0 (.op 1 (.op 2 (.op 3 (.op 4 (.op 5 (.op 6 (.op 7 (.op 8 (.op 9 (.op 10 (.alt 11 (.op 12 (.op 13 (.alt 14 (.done) (.done)))) (.done)))))))))))))]} Tryz.func102 (hvc:=?_)),
 (fun q1 q0=>Z0 Ya (ZX q1 (ZX q0 Z6)) mixed {loops:=[(0,[.reg 8 (.dat (.int .i64))])]} Tryz.func202 (hvc:=?_)),
 (fun q0=>Z0 Ya (ZX q0 Z6) mixed {} Tryz.func242 (hvc:=?_)),
 (fun q0 q1 q2=>Z0 Ya (ZX q0 (ZX q1 (ZX q2 Z6))) mixed {loops:=[(0,[.reg 3 (.dat (.int .i64)),.reg 9 (.dat (.int .i64))])],draws:=[(10,[0,1,3,7,15,31,7,71,199,511,1023,2047,4095,8191,16383,32767,65535],.op 0 (.op 1 (.op 2 (.op 3 (.op 4 (.op 5 (.op 6 (.alt 7 (.op 8 (.op 9 (.op 10 (.op 11 (.op 12 (.op 13 (.alt 14 (.op 15 (.op 16 (.done))) (.done)))))))) (.done))))))))),(12,[0,1,3,7,15,31,63,127,255,511,1023,2047,4095,8191,16383,32767,16383,131071,262143,524287,1048575],.op 0 (.op 1 (.op 2 (.op 3 (.op 4 (.op 5 (.op 6 (.op 7 (.op 8 (.op 9 (.alt 10 (.op 11 (.op 12 (.op 13 (.op 14 (.op 16 (.alt 15 (.alt 17 (.op 18 (.op 19 (.op 20 (.done)))) (.done)) (.done))))))) (.done))))))))))))]} Tryz.func203 (hvc:=?_)),
 (fun q0 q1=>Z0 Ya (ZX q0 (ZX q1 Z6)) mixed {} Tryz.func130 (hvc:=?_)),
 (Z0 Ya Z6 mixed {loops:=[(0,[.reg 3 (.own (.ol 106 (.flat (Zl1)))),.reg 13 (.dat (.int .i64))]),(2,[.reg 3 (.own (.ol 106 (.flat (Zl1)))),.reg 21 (.dat (.int .i64))]),(4,[.reg 3 (.own (.ol 106 (.flat (Zl1)))),.reg 44 (.dat (.int .i64))])]} Tryz.func59 (hvc:=?_)),
 (fun q1 q0=>Z0 Ya (ZX q1 (ZX q0 Z6)) mixed {} Tryz.func56 (hvc:=?_)),
 (fun q1 q0 q2=>Z0 Ya (ZX q1 (ZX q0 (ZX q2 Z6))) mixed {loops:=[(0,[.reg 32 (.dat (.int .i64)),.ent 1 (nat_lit 2) (.flat Zr8.ety)]),(2,[.reg 50 (.dat (.int .i64))])],draws:=[(13,[0,0,0,6,14,31,63],.op 0 (.op 1 (.op 2 (.op 3 (.op 4 (.alt 5 (.op 6 (.done)) (.done)))))))]} Tryz.func55 (hvc:=?_)),
 (fun q4 q2 q1 q3 q0=>Z0 Ya (ZX q4 (ZX q2 (ZX q1 (ZX q3 (ZX q0 Z6))))) mixed {loops:=[(0,[.reg 25 (.dat (.int .i64)),.ent 2 (nat_lit 3) (.flat Zqr.ety)]),(2,[.reg 51 (.dat (.int .i64)),.ent 2 (nat_lit 3) (.flat Zqr.ety)])]} Tryz.func92 (hvc:=?_)),
 (Z0 Ya Z6 mixed {} Tryz.func132 (hvc:=?_)),
 (fun q0=>Z0 Ya (ZX q0 Z6) mixed {draws:=[(1,[0,1,3,0,8,31,0,64,255,0,512,2047,4095,8191],.op 0 (.op 1 (.op 3 (.op 4 (.op 6 (.op 7 (.op 9 (.op 10 (.alt 2 (.alt 5 (.alt 8 (.alt 11 (.op 12 (.alt 13 (.done) (.done))) (.done)) (.done)) (.done)) (.done))))))))))]} Tryz.func106 (hvc:=?_)),
 (fun q0 q3 q2 q1=>Z0 Ya (ZX q0 (ZX q3 (ZX q2 (ZX q1 Z6)))) mixed {} Tryz.func261 (hvc:=?_)),
 (Z0 Ya Z6 mixed {} Tryz.func240 (hvc:=?_)),
 (Z0 Ya Z6 mixed {loops:=[(0,[.reg 3 (.dat (.int .i64))])],draws:=[(4,[0,0,2,7,15,0,0,96,224,511],.op 0 (.op 1 (.op 2 (.op 3 (.op 4 (.op 5 (.op 6 (.op 7 (.op 8 (.op 9 (.done)))))))))))]} Tryz.func262 (hvc:=?_)),
 (fun q0=>Z0 Ya (ZX q0 Z6) mixed {} Tryz.func168 (hvc:=?_)),
 (fun q0=>Z0 Ya (ZX q0 Z6) mixed {} Tryz.func194 (hvc:=?_)),
 (fun q0 q1 q2=>Z0 Xn (ZX q0 (ZX q1 (ZX q2 Z6))) mixed {} Tryz.func13 (hvc:=?_)),
 (fun q1 q2 q3 q0=>Z0 Xn (ZX q1 (ZX q2 (ZX q3 (ZX q0 Z6)))) mixed {loops:=[(0,[.reg 1 (.dat (.int .i64)),.reg 5 (.dat (.int .i64)),.ent 0 (nat_lit 133) (Dp.pair (Dp.flat Ty.str) (Dp.pair (Dp.flat (Ty.int IntKind.i64)) (Dp.pair (Dp.ol (168:Go.TypeId) (Dp.flat Zcb)) (Dp.pair (Dp.ol (201:Go.TypeId) Zqz) (Dp.pair (Dp.ol (2:Go.TypeId) (Dp.flat (Ty.int IntKind.i64))) (Dp.pair (Dp.flat (Ty.int IntKind.i64)) (Dp.pair (Dp.flat (Ty.int IntKind.i64)) (Dp.flat Ty.unit))))))))])]} Tryz.func65 (hvc:=?_)),
 (fun q1 q0=>Z0 Xn (ZX q1 (ZX q0 Z6)) mixed {loops:=[(0,[.reg 1 (.dat (.int .i64)),.reg 5 (.dat (.int .i64)),.ent 0 (nat_lit 134) (Dp.pair (Dp.flat Ty.str) (Dp.pair (Dp.flat (Ty.int IntKind.i64)) (Dp.pair (Dp.ol (2:Go.TypeId) (Dp.flat (Ty.int IntKind.i64))) (Dp.flat Ty.unit))))])]} Tryz.func66 (hvc:=?_)),
 (fun q0=>Z0 Xn (ZX q0 Z6) mixed {} Tryz.func33 (hvc:=?_)),
 (fun q0=>Z0 Xn (ZX q0 Z6) mixed {loops:=[(0,[.reg 1 (.dat (.int .i64)),.reg 5 (.dat (.int .i64)),.ent 0 (nat_lit 138) (.flat VX)])]} Tryz.func68 (hvc:=?_)),
 (fun q1 q2 q0=>Z0 Ya (ZX q1 (ZX q2 (ZX q0 Z6))) mixed {} Tryz.func69 (hvc:=?_)),
 (Z0 Ya Z6 mixed {} Tryz.func41 (hvc:=?_)),
 (fun q1 q2 q0=>Z0 Xn (ZX q1 (ZX q2 (ZX q0 Z6))) mixed {} Tryz.func89 (hvc:=?_)),
 (fun q0 q1 q2=>Z0 Xn (ZX q0 (ZX q1 (ZX q2 Z6))) mixed {} Tryz.func24 (hvc:=?_)),
 (Z0 Ya Z6 mixed {} Tryz.func192 (hvc:=?_)),
 (fun q0=>Z0 Ya (ZX q0 Z6) mixed {} Tryz.func164 (hvc:=?_)),
 (Z0 Ya Z6 mixed {loops:=[(0,[.reg 13 (.dat (.int .i64))])],draws:=[(6,[0,0,3,7,0,0,48,112,255],.op 0 (.op 1 (.op 2 (.op 3 (.op 4 (.op 5 (.op 6 (.op 7 (.op 8 (.done))))))))))]} Tryz.func206 (hvc:=?_)),
 (fun q0=>Z0 Ya (ZX q0 Z6) mixed {loops:=[(0,[.reg 8 (.dat (.int .i64))])]} Tryz.func166 (hvc:=?_)),
 (fun q0 q1 q2=>Z0 Ya (ZX q0 (ZX q1 (ZX q2 Z6))) mixed {loops:=[(0,[.reg 5 (.own (.ol 9 (.flat (.str)))),.reg 6 (.dat (.int .i64))]),(2,[.reg 7 (.own (.ol 9 (.flat (.str)))),.reg 8 (.dat (.int .i64))]),(4,[.reg 10 (.dat (.int .i64)),.ent 6 (nat_lit 2) (.flat Zr8.ety)]),(6,[.reg 12 (.dat (.int .i64)),.ent 6 (nat_lit 2) (.flat Zr8.ety)]),(8,[.reg 13 (.dat (.int .i64))])]} Tryz.func72 (hvc:=?_)),
 (Z0 Ya Z6 mixed {} Tryz.func123 (hvc:=?_)),
 (Z0 Ya Z6 mixed {loops:=[(0,[.reg 4 (.dat (.int .i64)),.ent 1 (nat_lit 2) (.flat Zr8.ety)])]} Tryz.func198 (hvc:=?_)),
 (Z0 Ya Z6 mixed {loops:=[(0,[.reg 3 (.own (.ol 95 (.flat (Zez)))),.reg 4 (.dat (.int .i64))]),(2,[.reg 3 (.own (.ol 95 (.flat (Zez)))),.reg 6 (.dat (.int .i64))]),(4,[.reg 3 (.own (.ol 95 (.flat (Zez)))),.reg 7 (.dat (.int .i64))])],draws:=[(13,[0,0,0,4,0,28,60,124,0,256,0,1792,3840,7936,16128,32766,65534,131071,262143],.op 0 (.op 1 (.op 2 (.op 3 (.op 4 (.op 5 (.op 6 (.op 7 (.op 8 (.op 9 (.op 10 (.op 11 (.op 12 (.op 13 (.op 14 (.op 15 (.alt 16 (.alt 17 (.op 18 (.done)) (.done)) (.done))))))))))))))))))]} Tryz.func47 (hvc:=?_)),
 (Z0 Ya Z6 mixed {} Tryz.func124 (hvc:=?_)),
 (fun q0 q2 q1=>Z0 Xn (ZX q0 (ZX q2 (ZX q1 Z6))) mixed {loops:=[(0,[.reg 4 (.dat (.int .i64)),.cello 1003 4 (.ol 53 (Zg8))])],draws:=[(1,[0,1,3,0,8,31,63,0,255],.op 0 (.op 1 (.op 3 (.op 4 (.alt 2 (.alt 5 (.op 6 (.alt 7 (.alt 8 (.done) (.done)) (.done))) (.alt 7 (.alt 5 (.op 6 (.alt 8 (.done) (.done))) (.done)) (.done))) (.alt 7 (.alt 2 (.alt 5 (.op 6 (.alt 8 (.done) (.done))) (.done)) (.done)) (.done))))))),(5,[0,1,0,4,0,28,60,124,252,511,1023,2047],.op 0 (.op 1 (.op 2 (.op 3 (.op 4 (.op 5 (.op 6 (.alt 7 (.alt 8 (.alt 9 (.op 10 (.alt 11 (.done) (.done))) (.done)) (.done)) (.done)))))))))]} Tryz.func82 (hvc:=?_))⟩
 all_goals
  intro a
  repeat rcases a with ⟨_,a⟩
  rintro K ⟨r,h,hK⟩
  repeat'
    conv=>whnf
    first
    | with_reducible refine Zp3 ?_
    | with_reducible refine ZdA (by assumption) (by assumption) (by assumption) ?_
    | with_reducible refine X0 (by assumption) ?_
    | with_reducible refine ZdD (by assumption) ?_
    | (with_reducible refine shD ?_);first | refine Zge h (fun h=>?_) (fun h=>?_) | refine Zpf h (fun h=>?_) (fun h=>?_)
    | (with_reducible refine Zqm ?_);first | refine ZrX ?_ | refine Zib ?_
    | (with_reducible refine Zuy ?_);first | refine Zpe h (fun h=>?_) (fun h=>?_) | refine Zqw h (fun h=>?_) (fun h=>?_)
    | (with_reducible refine Zql ?_);(refine ⟨fun hd=>?_,?_⟩)<;>try subst hd
    | (with_reducible refine ZuA ?_);first | with_reducible refine XP h (fun x hb h=>?_) | refine ZdD (by assumption) ?_ | with_reducible refine pG h (fun hp h=>?_) | with_reducible refine pA h (fun x ha hb hx h=>?_) | with_reducible refine pB h (fun x hb h=>?_) | refine XP h (fun x hb h=>?_)
    | (with_reducible refine Zux ?_);first | with_reducible refine vAt h (fun x ha hb hx h=>?_) | refine ZdA (by assumption) (by assumption) (by assumption) ?_ | with_reducible refine pG h (fun hp h=>?_) | with_reducible refine pA h (fun x ha hb hx h=>?_) | with_reducible refine pB h (fun x hb h=>?_) | refine vAt h (fun x ha hb hx h=>?_)
    | (with_reducible refine Zqk ?_);first | with_reducible refine ZkJ h (fun x hb h=>?_) | refine X0 (by assumption) ?_ | with_reducible refine pG h (fun hp h=>?_) | with_reducible refine pA h (fun x ha hb hx h=>?_) | with_reducible refine pB h (fun x hb h=>?_) | refine ZkJ h (fun x hb h=>?_)
    | with_reducible refine Zuz ?_
    | (with_reducible refine ZmW ?_);refine ZmY h hK ?_;clear h hK;intro I μ v r h hK;(repeat rcases v with ⟨_,v⟩);(try dsimp only at h)
    | with_reducible refine ⟨by assumption,?_⟩
    | with_reducible refine orL ?_
    | with_reducible refine .inr ?_
    | (with_reducible refine Zqn ?_);first | refine ⟨?_,True.intro⟩ | refine ⟨?_,?_⟩
    | refine ⟨by kernel_rfl,?_⟩
    | refine ⟨by decide,?_⟩
    | with_reducible refine ZkR h (fun hp h=>?_)
    | intro fp
    | exact trivial
    | with_reducible exact Zp0 h
    | (refine pS h (fun e=>?_));subst e;(repeat (first | exact hK | exact ⟨⟨rfl,rfl⟩,hK.1 _ rfl⟩ | (refine pR hK (fun e hK=>?_));subst e));done
    | refine ZkR h (fun hp h=>?_)
    | refine ⟨by assumption,?_⟩
    | with_reducible refine pG h (fun hp h=>?_) | with_reducible refine pA h (fun x ha hb hx h=>?_) | with_reducible refine pB h (fun x hb h=>?_)
    | refine pG h (fun hp h=>?_)
    | fail
theorem ZzA (q2:ZV Tryz.prog 57 Zwi) (q3:ZV Tryz.prog 58 Zwq) (q1:ZV Tryz.prog 59 c138) (q0:ZV Tryz.prog 60 Zws):ZV Tryz.prog 28 c182:=by
 refine Z0 Ya (ZX q2 (ZX q3 (ZX q1 (ZX q0 Z6)))) mixed {loops:=[(0,[.reg 6 (.own (.ol 2 (.flat (.int .i64)))),.reg 18 (.dat (.int .i64))])]} (fn:=Tryz.f28) Tryz.func28 (by kernel_rfl) (by kernel_rfl) ?_
 rintro ⟨e0,b0,⟨⟩⟩ K ⟨r,h,hK⟩
 change Ji e0 b0=some r at h
 unfold Ji at h
 conv=>whnf
 refine XP h (fun touched0 hb0 h=>?_)
 conv=>whnf
 refine XP h (fun apply0 hb1 h=>?_)
 conv=>whnf
 intro fp2
 conv=>whnf
 intro fp3
 conv=>whnf
 intro fp4
 conv=>whnf
 refine XP h (fun places0 hb5 h=>?_)
 conv=>whnf
 refine Zos h ?_
 rintro I6 μ6 ⟨list0,v0,⟨⟩⟩ zs6 h hI6 hR6
 change QI touched0 places0 list0 v0=some zs6 at h
 unfold QI at h
 conv=>whnf
 refine Zge h (fun h=>?_) (fun h=>?_)
 conv=>whnf
 refine vAt h (fun x0 he7a he7b he7x h=>?_)
 conv=>whnf
 refine ⟨by kernel_rfl,?_⟩
 conv=>whnf
 refine ⟨he7a,he7b,X0 he7x ?_⟩
 conv=>whnf
 refine XP h (fun int64_0 hb8 h=>?_)
 conv=>whnf
 refine Zpe h (fun h=>?_) (fun h=>?_)
 conv=>whnf
 refine ZkR h (fun hp9 h=>?_)
 conv=>whnf
 cases h
 exact ⟨⟨rfl,rfl⟩,hI6 _ rfl⟩
 conv=>whnf
 cases h
 exact ⟨⟨rfl,rfl⟩,hI6 _ rfl⟩
 conv=>whnf
 cases h
 obtain rfl:=hR6 _ rfl
 exact hK
theorem w85:ZV Tryz.prog 49 c85:=by
 refine Z0 Ya Z6 mixed {loops:=[(0,[.reg 5 (.dat (.int .i64))])]} (fn:=Tryz.f49) Tryz.func49 (by kernel_rfl) (by kernel_rfl) ?_
 rintro ⟨list0,x0,⟨⟩⟩ K ⟨r,h,hK⟩
 change Zc6 list0 x0=some r at h
 unfold Zc6 at h
 conv=>whnf
 refine Zos h ?_
 rintro I0 μ0 ⟨i0,⟨⟩⟩ zs0 h hI0 hR0
 change Vl list0 x0 i0=some zs0 at h
 unfold Vl at h
 conv=>whnf
 refine Zge h (fun h=>?_) (fun h=>?_)
 conv=>whnf
 refine vAt h (fun x1 he1a he1b he1x h=>?_)
 conv=>whnf
 refine Zge h (fun h=>?_) (fun h=>?_)
 conv=>whnf
 cases h
 obtain rfl:=hR0 _ rfl
 exact hK
 conv=>whnf
 cases h
 exact ⟨⟨rfl,rfl⟩,hI0 _ rfl⟩
 conv=>whnf
 cases h
 obtain rfl:=hR0 _ rfl
 exact hK
end Go.Proofs.YtdabmnfkcnkkbaaGreatDoor
