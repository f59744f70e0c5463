/-
  The functions keep their contracts, if what they call does. Printed by program.
-/
import Derived.Test.YtgjjlgodlhhdoaaGreatDoorM
import Derived.KernelRfl
namespace Go.Proofs.YtgjjlgodlhhdoaaGreatDoor
open Go Go.Sx
set_option maxRecDepth 100000
set_option maxHeartbeats 6400000
set_option linter.unusedVariables false
set_option linter.unusedSimpArgs false
structure Ws3:Prop where
 w112:Sq 374 c93->Sq 375 Zyi->Sq 376 c109->Sq 377 Zyk->Sq 357 ZwE->Sq 223 c86->Sq 354 Zyl
 w190:Sq 265 Zy0
 w131:Sq 276 Zyu->Sq 223 c86->Sq 143 c130->Sq 219 c131
 w128:Sq 220 c127->Sq 277 Zyw
 w127:Sq 232 Zyv->Sq 223 c86->Sq 220 c127
 w210:Sq 59 c139->Sq 61 Zvr->Sq 60 Zxz->Sq 18 c210
 w207:Sq 47 ZxB->Sq 57 c206->Sq 16 Zza
 w177:Sq 208 ZyR->Sq 119 ZyS
 w197:Sq 122 Zy4
 w189:Sq 314 ZyZ->Sq 263 Zwn->Sq 262 ZxC
 w140:Sq 198 ZyD
 w158:Sq 131 c156->Sq 241 c157->Sq 167 ZxA
 w106:Sq 387 c105->Sq 375 Zyi
 w179:Sq 209 ZyT->Sq 202 ZyU
 w206:Sq 130 Zy9->Sq 49 c198->Sq 131 c156->Sq 57 c206
 w157:Sq 223 c86->Sq 241 c157
 w125:Sq 276 Zyu
 w173:Sq 207 c173
 w172:Sq 59 c139->Sq 113 c141->Sq 77 ZyH->Sq 114 c159->Sq 115 ZyK->Sq 78 ZyL->Sq 116 c164->Sq 117 c171->Sq 47 ZxB
 w162:Sq 48 c152->Sq 223 c86->Sq 166 c162
 w205:Sq 48 c152->Sq 130 Zy9
 w187:Sq 351 ZyY->Sq 314 ZyZ
 w186:Sq 330 ZyW->Sq 373 ZyX->Sq 351 ZyY
 w130:Sq 228 Zyx->Sq 143 c130
 w174:Sq 207 c173->Sq 206 ZyQ
 w133:Sq 222 Zyy->Sq 278 Zyz
 w89:Sq 340 c89
 w185:Sq 373 ZyX
 w31:Sq 303 c24->Sq 213 c22->Sq 172 c23->Sq 304 c29->Sq 305 c30->Sq 255 c31
 w27:Sq 383 c26->Sq 369 c27
 w23:Sq 172 c23
 w25:Sq 172 c23->Sq 393 c25
 w30:Sq 305 c30
 w28:Sq 369 c27->Sq 345 c28
 w14:Sq 98 c13->Sq 103 c14
 w50:Sq 51 c42->Sq 52 c45->Sq 53 c46->Sq 225 c49->Sq 127 c44->Sq 137 c50
 w49:Sq 279 c47->Sq 280 c48->Sq 225 c49
 w48:Sq 280 c48
 w65:Sq 98 c13->Sq 316 c64->Sq 267 c65
 w76:Sq 267 c65->Sq 268 c68->Sq 270 c69->Sq 273 c75->Sq 215 c76
 w80:Sq 53 c46->Sq 151 c62->Sq 54 c79->Sq 148 c56->Sq 72 c80
 w202:Sq 56 Zy7
 w203:Sq 55 c203
set_option maxHeartbeats 100000000 in
theorem ws3:Ws3:=by
 refine ⟨(λq4 q3 q2 q0 q1 q5=>Zg Zu (Zb q4 (Zb q3 (Zb q2 (Zb q0 (Zb q1 (Zb q5 Zk)))))) mixed {draws:=[(2,[0,1,3,7,15,31,63,127,255,511,1023,2047,4095,8191,16383,32767,65535,32767,163839,524287,1048575,2097151,4194303,8388607,16777215,33554431,67108863,134217727,134217727,402653183,1073741823,2147483647,4294967295,8589934591,17179869183,8589934591,42949672959,137438953471,274877906943,549755813887],.u 0 12 (.alt 12 (.u 13 5 (.alt 18 (.u 19 11 (.alt 30 (.u 31 9 .done) .done)) .done)) .done)),(3,[0,1,3,7,15,31,63,127,255,511,1023,2047,4095,2047,10239,32767,65535,131071,262143,262143,786431,2097151,4194303,8388607],.o [0,1] (.alt 2 (.u 3 4 (.alt 7 (.u 8 6 (.alt 14 (.u 15 6 (.alt 21 (.o [22,23] .done) .done)) .done)) .done)) .done))]} Tryz.func354 (hvc:=?_)),
 (Zg Zu Zk mixed {} Tryz.func265 (hvc:=?_)),
 (λq1 q2 q0=>Zg Zu (Zb q1 (Zb q2 (Zb q0 Zk))) mixed {draws:=[(1,[0,1,0,4,12,28,63,127,255,511,1023,255,2303,255,8447,30975,63743,129279,260351,524287,1048575,2097151,4194303,8388607,4194303,33554431,67108863,134217727,268435455],.u 0 4 (.alt 4 (.op 5 (.alt 6 (.u 7 18 (.alt 25 (.o [26,27,28] .done) .done)) .done)) .done))]} Tryz.func219 (hvc:=?_)),
 (λq0=>Zg Zu (Zb q0 Zk) mixed {} Tryz.func277 (hvc:=?_)),
 (λq0 q1=>Zg Zu (Zb q0 (Zb q1 Zk)) mixed {} Tryz.func220 (hvc:=?_)),
 (λq2 q1 q0=>Zg Zu (Zb q2 (Zb q1 (Zb q0 Zk))) mixed {} Tryz.func18 (hvc:=?_)),
 (λq1 q0=>Zg Zu (Zb q1 (Zb q0 Zk)) mixed {} Tryz.func16 (hvc:=?_)),
 (λq0=>Zg Zu (Zb q0 Zk) mixed {draws:=[(2,[0,0,0,0,0,1,33,107,235,491,1023,2047,4095],.o [0,1,2,5] (.alt 3 (.alt 4 (.alt 6 (.o [7,8] (.alt 9 (.o [10,11] (.alt 12 .done .done)) .done)) .done) (.alt 6 (.o [7,8] (.alt 4 (.alt 9 (.o [10,11] (.alt 12 .done .done)) .done) (.a [9,4] (.o [10,11] (.alt 12 .done .done))))) .done)) (.alt 4 (.alt 3 (.alt 6 (.o [7,8] (.alt 9 (.o [10,11] (.alt 12 .done .done)) .done)) .done) (.a [6,3] (.o [7,8] (.alt 9 (.o [10,11] (.alt 12 .done .done)) .done)))) (.alt 6 (.alt 3 (.o [7,8] (.alt 4 (.alt 9 (.o [10,11] (.alt 12 .done .done)) .done) (.a [9,4] (.o [10,11] (.alt 12 .done .done))))) (.a [4,3] (.o [7,8] (.alt 9 (.o [10,11] (.alt 12 .done .done)) .done)))) .done)))),(3,[0,0,0,4,12,28,0,124,0,256,768,1792,0,8188,16381,32765,65533,131071,262143,524287],.u 0 7 (.u 8 5 (.a [7,13] (.o [14,15] (.alt 16 (.o [17,18] (.alt 19 .done .done)) .done)))))]} Tryz.func119 (hvc:=?_)),
 (Zg Zu Zk mixed {} Tryz.func122 (hvc:=?_)),
 (λq0 q1=>Zg Zu (Zb q0 (Zb q1 Zk)) mixed {loops:=[(0,[.reg 13 (.dat Iq),.reg 34 (.dat Iq)]),(2,[.reg 13 (.dat Iq),.reg 40 (.dat Iq)])],draws:=[(10,[0,0,2,0,8,0,32,96,248,0,512,2040,4094,8190,0,16384,65534,0,131072,524286,1048575,2097151],.u 0 22 .done)]} Tryz.func262 (hvc:=?_)),
 (Zg Zu Zk mixed {} Tryz.func198 (hvc:=?_)),
 (λq0 q1=>Zg Zu (Zb q0 (Zb q1 Zk)) mixed {} Tryz.func167 (hvc:=?_)),
 (λq0=>Zg Zu (Zb q0 Zk) mixed {} Tryz.func375 (hvc:=?_)),
 (λq0=>Zg Zu (Zb q0 Zk) mixed {loops:=[(0,[.reg 5 (.own (.ol 2 (.flat Iq))),.reg 16 (.dat Iq)])]} Tryz.func202 (hvc:=?_)),
 (λq1 q0 q2=>Zg Zu (Zb q1 (Zb q0 (Zb q2 Zk))) mixed {loops:=[(0,[.reg 22 (.dat Iq),.cello 1008 0 (.ol 4 (.flat (.bool))),.cello 1008 1 (.ol 92 (.flat (Jl))),.cello 1008 2 (.ol 92 (.flat (Jl))),.ent 2 (nat_lit 4) (.flat Ty.bool),.ent 3 (nat_lit 92) (.flat Jl),.ent 4 (nat_lit 92) (.flat Jl)])],draws:=[(8,[0,1,0,0,8,0,0,64,0,0,0,1024,0,4096,519,16903,52799,118335,262143,524287],.u 0 4 (.o [5,6,8,9,10,12,14] (.l [4,7,11,13] (.alt 15 (.op 16 (.alt 17 (.op 18 (.alt 19 .done .done)) .done)) .done))))]} Tryz.func57 (hvc:=?_)),
 (λq0=>Zg Zu (Zb q0 Zk) mixed {} Tryz.func241 (hvc:=?_)),
 (Zg Zu Zk mixed {} Tryz.func276 (hvc:=?_)),
 (Zg Zu Zk mixed {} Tryz.func207 (hvc:=?_)),
 (λq6 q5 q7 q1 q2 q0 q3 q4=>Zg Zu (Zb q6 (Zb q5 (Zb q7 (Zb q1 (Zb q2 (Zb q0 (Zb q3 (Zb q4 Zk)))))))) mixed {} Tryz.func47 (hvc:=?_)),
 (λq0 q1=>Zg Zu (Zb q0 (Zb q1 Zk)) mixed {} Tryz.func166 (hvc:=?_)),
 (λq0=>Zg Zu (Zb q0 Zk) mixed {draws:=[(2,[0,1,0,4,0,16,63,127],.o [0,2,4] (.alt 1 (.alt 3 (.alt 5 (.op 6 (.alt 7 .done .done)) .done) (.a [5,3] (.op 6 (.alt 7 .done .done)))) (.alt 3 (.alt 1 (.alt 5 (.op 6 (.alt 7 .done .done)) .done) (.a [5,1] (.op 6 (.alt 7 .done .done)))) (.alt 5 (.alt 1 (.alt 3 (.op 6 (.alt 7 .done .done)) .done) (.a [3,1] (.op 6 (.alt 7 .done .done)))) .done))))]} Tryz.func130 (hvc:=?_)),
 (λq0=>Zg Zu (Zb q0 Zk) mixed {draws:=[(1,[0,0,2,6,15,0,0,64,192,480,992,2047,4095],.u 0 13 .done),(5,[0,1,0,0,12,28,0,124,255,0,0,0,0,4096,14336,30720,64512,130560,262143,0,0,1572864,3670016,0,0,16777216,58720256,125829120,267911168,524287,1073741823],.u 0 18 (.u 19 10 (.alt 18 (.o [29,30] .done) .done)))]} Tryz.func314 (hvc:=?_)),
 (λq1 q0=>Zg Zu (Zb q1 (Zb q0 Zk)) mixed {loops:=[(0,[.reg 7 (.dat Iq),.reg 8 (.dat Iq)])]} Tryz.func351 (hvc:=?_)),
 (λq0=>Zg Zu (Zb q0 Zk) mixed {} Tryz.func143 (hvc:=?_)),
 (λq0=>Zg Zu (Zb q0 Zk) mixed {loops:=[(0,[.reg 8 (.dat Iq)])]} Tryz.func206 (hvc:=?_)),
 (λq0=>Zg Zu (Zb q0 Zk) mixed {loops:=[(0,[.reg 8 (.dat Iq)])]} Tryz.func278 (hvc:=?_)),
 (Zg Zu Zk mixed {loops:=[(0,[.reg 8 (.dat Iq)])]} Tryz.func340 (hvc:=?_)),
 (Zg Zu Zk mixed {} Tryz.func373 (hvc:=?_)),
 (λq1 q2 q4 q3 q0=>Zg Zu (Zb q1 (Zb q2 (Zb q4 (Zb q3 (Zb q0 Zk))))) mixed {loops:=[(0,[.reg 5 (.dat Iq)]),(2,[.reg 7 (.dat Iq)]),(5,[.reg 9 (.dat Iq)])],draws:=[(13,[0,1,0,7,15,31,0,64,255,511,1023,2047,1023,8191,16383,32767,1023,66559,262143,524287,1048575,2097151,4194303,2097151,16777215,33554431,67108863,2097151,136314879,536870911,1073741823],.u 0 31 .done),(25,[0,1,3,7,15,31,63,127,255,511,1023,2047,4095,511,8703,25087,57855,131071,262143,524287,1048575,2097151,4194303,8388607,16777215,33554431],.u 0 26 .done)]} Tryz.func255 (hvc:=?_)),
 (λq0=>Zg Zu (Zb q0 Zk) mixed {loops:=[(0,[.reg 5 (.dat Iq),.cell 1004 0 Iq,.cell 1004 1 Iq])],draws:=[(3,[0,1,3,7,0,16,48,112,255,0,1023],.u 0 9 (.a [9,10] .done)),(7,[0,1,0,4,0,28,60,127,255,511],.u 0 9 (.alt 9 .done .done)),(8,[0,1,0,4,0,28,60,127,255,511],.u 0 9 (.alt 9 .done .done))]} Tryz.func369 (hvc:=?_)),
 (Zg Zu Zk mixed {} Tryz.func172 (hvc:=?_)),
 (λq0=>Zg Zu (Zb q0 Zk) mixed {loops:=[(0,[.reg 3 (.dat Iq)])],draws:=[(4,[0,0,3,7,15,31,63,127,255,511,1023,1023,3071,8191,16383,1023,1023,99327,230399,524287,1048575,2097151],.u 0 4 (.alt 4 (.u 5 17 .done) .done))]} Tryz.func393 (hvc:=?_)),
 (Zg Zu Zk mixed {loops:=[(0,[.reg 4 (.dat Iq),.ent 1 (nat_lit 2) (.flat Ztk.ety)])]} Tryz.func305 (hvc:=?_)),
 (λq0=>Zg Zu (Zb q0 Zk) mixed {loops:=[(0,[.reg 5 (.dat Iq)])]} Tryz.func345 (hvc:=?_)),
 (λq0=>Zg Zu (Zb q0 Zk) mixed {loops:=[(0,[.reg 5 (.own (.ol 2 (.flat Iq))),.reg 7 (.dat Iq)])]} Tryz.func103 (hvc:=?_)),
 (λq0 q3 q1 q2 q4=>Zg Zu (Zb q0 (Zb q3 (Zb q1 (Zb q2 (Zb q4 Zk))))) mixed {loops:=[(0,[.ent 3 (nat_lit 4) (.flat Ty.bool)]),(4,[.reg 9 (.own (.ol 2 (.flat Iq))),.reg 10 (.dat Iq)]),(2,[.reg 7 (.dat Iq),.reg 8 (.dat Iq),.ent 4 (nat_lit 38) (Dp.ol (2:Go.TypeId) (Dp.flat (Ty.int IntKind.i64)))])],draws:=[(10,[0,0,3,7,15,31,31,127,255,511,1023,2047,4095,8191,16383,32767,8191,8191,204799,466943,991231,2097151,4194303,8388607,16777215,33554431,67108863,16777215,16777215,419430399,956301311,2030043135,4294967295,8589934591],.u 0 21 (.alt 21 (.u 22 10 (.alt 32 (.op 33 .done) .done)) .done))]} Tryz.func137 (hvc:=?_)),
 (λq0 q1=>Zg ZcW (Zb q0 (Zb q1 Zk)) mixed {loops:=[(0,[.reg 7 (.own (.ol 38 (.ol 2 (.flat Iq)))),.reg 9 (.dat Iq),.ent 1 (nat_lit 4) (.flat ZsZ.ety)]),(2,[.reg 12 (.own (.ol 2 (.flat Iq))),.reg 13 (.dat Iq),.ent 1 (nat_lit 4) (.flat ZsZ.ety)])]} Tryz.func225 (hvc:=?_)),
 (Zg Zu Zk mixed {loops:=[(0,[.reg 7 (.dat Iq)])]} Tryz.func280 (hvc:=?_)),
 (λq0 q1=>Zg Zu (Zb q0 (Zb q1 Zk)) mixed {draws:=[(1,[0,1,3,0,8,24,63,127,0,511],.o [0,1,3,4,5] (.alt 2 (.o [6,7] (.a [8,9] .done)) (.a [8,2] (.o [6,7] (.alt 9 .done .done))))),(2,[0,1,3,0,8,24,0,64,248,504,1016,2047,4095,8191,0,16384,65535,131071,0,0,524288,1835008,3932160,8126464,4194303,33554431],.u 0 21 (.alt 21 (.op 22 (.alt 23 (.alt 24 (.op 25 .done) .done) (.a [24,23] (.op 25 .done)))) .done))]} Tryz.func267 (hvc:=?_)),
 (λq2 q0 q3 q1=>Zg Zu (Zb q2 (Zb q0 (Zb q3 (Zb q1 Zk)))) mixed {draws:=[(4,[0,0,0,6,0,16,0,0,255,511,1023],.o [0,1,2] (.u 4 4 (.a [3,8] (.o [9,10] .done))))]} Tryz.func215 (hvc:=?_)),
 (λq0 q1 q2 q3=>Zg Zu (Zb q0 (Zb q1 (Zb q2 (Zb q3 Zk)))) mixed {loops:=[(0,[.reg 15 (.dat Iq),.cello 2 0 (.ol 4 (.flat (.bool))),.cello 2 1 (.ol 92 (.flat (Jl))),.cello 2 2 (.ol 92 (.flat (Jl))),.ent 3 (nat_lit 4) (.flat Ty.bool),.ent 4 (nat_lit 92) (.flat Jl),.ent 5 (nat_lit 92) (.flat Jl)])]} Tryz.func72 (hvc:=?_)),
 (Zg Zu Zk mixed {draws:=[(1,[0,0,2,7,0,0,32,127,0,0,512,2047,4095,8191],.o [1,2,5,9] (.l [6,10] (.alt 0 (.alt 3 (.alt 4 (.alt 7 (.a [8,11] (.op 12 (.alt 13 .done .done))) (.a [8,7,11] (.op 12 (.alt 13 .done .done)))) (.a [8,4,7,11] (.op 12 (.alt 13 .done .done)))) (.alt 4 (.alt 3 (.alt 7 (.a [8,11] (.op 12 (.alt 13 .done .done))) (.a [8,7,11] (.op 12 (.alt 13 .done .done)))) (.a [8,3,7,11] (.op 12 (.alt 13 .done .done)))) (.alt 8 (.alt 3 (.a [4,7,11] (.op 12 (.alt 13 .done .done))) (.a [4,3,7,11] (.op 12 (.alt 13 .done .done)))) .done))) (.alt 4 (.alt 0 (.alt 3 (.alt 7 (.a [8,11] (.op 12 (.alt 13 .done .done))) (.a [8,7,11] (.op 12 (.alt 13 .done .done)))) (.a [8,3,7,11] (.op 12 (.alt 13 .done .done)))) (.a [8,0,3,7,11] (.op 12 (.alt 13 .done .done)))) (.alt 8 (.alt 0 (.alt 3 (.a [4,7,11] (.op 12 (.alt 13 .done .done))) (.a [4,3,7,11] (.op 12 (.alt 13 .done .done)))) (.a [4,0,3,7,11] (.op 12 (.alt 13 .done .done)))) .done)))))]} Tryz.func56 (hvc:=?_)),
 (Zg ZcW Zk mixed {draws:=[(3,[0,1,0,7,15,0,63,127,255,511,255,2047,4095,255,8447,32767,65535,131071,262143,524287,262143,2097151,4194303,262143,8650751,33554431,67108863,134217727],.u 0 28 .done)]} Tryz.func55 (hvc:=?_))⟩
 all_goals
  intro a;repeat rcases a with ⟨_,a⟩
  rintro K ⟨r,h,hK⟩;repeat'
    conv=>whnf
    first
    | with_reducible refine ZrN ?_
    | with_reducible refine ZeX (by assumption) (by assumption) (by assumption) ?_
    | with_reducible refine Yd (by assumption) ?_
    | with_reducible refine ZeZ (by assumption) ?_
    | (with_reducible refine shD ?_);first | refine ZlD h (λh=>?_) (λh=>?_) | refine Zq7 h (λh=>?_) (λh=>?_)
    | (with_reducible refine ZsO ?_);first | refine Zwh ?_ | refine Zo7 ?_
    | (with_reducible refine Zw8 ?_);first | refine Zs5 h (λh=>?_) (λh=>?_) | refine Zs6 h (λh=>?_) (λh=>?_)
    | (with_reducible refine ZsN ?_);(refine ⟨λhd=>?_,?_⟩)<;>try subst hd
    | (with_reducible refine Zxa ?_);first | with_reducible refine ZaJ h (λx hb h=>?_) | refine ZeZ (by assumption) ?_ | with_reducible refine pG h (λhp h=>?_) | with_reducible refine pA h (λx ha hb hx h=>?_) | with_reducible refine pB h (λx hb h=>?_) | refine ZaJ h (λx hb h=>?_)
    | (with_reducible refine Zw7 ?_);first | with_reducible refine vAt h (λx ha hb hx h=>?_) | refine ZeX (by assumption) (by assumption) (by assumption) ?_ | with_reducible refine pG h (λhp h=>?_) | with_reducible refine pA h (λx ha hb hx h=>?_) | with_reducible refine pB h (λx hb h=>?_) | refine vAt h (λx ha hb hx h=>?_)
    | (with_reducible refine ZsM ?_);first | with_reducible refine ZlC h (λx hb h=>?_) | refine Yd (by assumption) ?_ | with_reducible refine pG h (λhp h=>?_) | with_reducible refine pA h (λx ha hb hx h=>?_) | with_reducible refine pB h (λx hb h=>?_) | refine ZlC h (λx hb h=>?_)
    | with_reducible refine Zw9 ?_
    | (with_reducible refine ZnZ ?_);refine Zoh h hK ?_;clear h hK;intro I μ v r h hK;(repeat rcases v with ⟨_,v⟩);(try dsimp only at h)
    | with_reducible refine ⟨by assumption,?_⟩
    | with_reducible refine orL ?_
    | with_reducible refine .inr ?_
    | (with_reducible refine ZsP ?_);first | refine ⟨?_,True.intro⟩ | refine ⟨?_,?_⟩
    | refine ⟨by kernel_rfl,?_⟩
    | refine ⟨by decide,?_⟩
    | with_reducible refine Zs7 h (λhp h=>?_)
    | intro fp
    | exact trivial
    | with_reducible exact ZrG h
    | (refine pS h (λe=>?_));subst e;(repeat (first | exact hK | exact ⟨⟨rfl,rfl⟩,hK.1 _ rfl⟩ | (refine pR hK (λe hK=>?_));subst e));done
    | refine Zs7 h (λhp h=>?_)
    | refine ⟨by assumption,?_⟩
    | with_reducible refine pG h (λhp h=>?_) | with_reducible refine pA h (λx ha hb hx h=>?_) | with_reducible refine pB h (λx hb h=>?_)
    | refine pG h (λhp h=>?_)
    | fail
end Go.Proofs.YtgjjlgodlhhdoaaGreatDoor
