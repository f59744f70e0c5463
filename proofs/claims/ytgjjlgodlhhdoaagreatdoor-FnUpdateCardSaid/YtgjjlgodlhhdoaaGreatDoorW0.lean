/-
  The functions keep their contracts, if what they call does. Printed by program.
-/
import Derived.Test.YtgjjlgodlhhdoaaGreatDoorM
import Derived.KernelRfl
namespace Go.Proofs.YtgjjlgodlhhdoaaGreatDoor
open Go Go.Sx
set_option maxRecDepth 100000
set_option maxHeartbeats 6400000
set_option linter.unusedVariables false
set_option linter.unusedSimpArgs false
structure Ws0:Prop where
 w141:Sq 238 c141
 w111:Sq 374 c92->Sq 375 c105->Sq 376 Zyj->Sq 377 ZwE->Sq 357 c109->Sq 223 c85->Sq 354 Zyk
 w110:Sq 357 c109->Sq 223 c85->Sq 377 ZwE
 w140:Sq 197 c86->Sq 198 c139->Sq 113 ZyD
 w155:Sq 216 c154->Sq 131 ZyJ
 w187:Sq 208 ZyZ
 w197:Sq 314 Zy3->Sq 263 c196->Sq 262 Zy4
 w175:Sq 140 c173->Sq 141 ZyQ->Sq 66 c175
 w139:Sq 198 c139
 w102:Sq 389 Zyd->Sq 390 Zye->Sq 388 Zyf
 w94:Sq 223 c85->Sq 226 c94
 w179:Sq 209 ZyT->Sq 202 ZyU
 w178:Sq 209 ZyT
 w153:Sq 200 ZyI
 w150:Sq 60 ZyH
 w125:Sq 232 Zyu
 w199:Sq 263 c196->Sq 264 Zy5
 w190:Sq 261 Zy0
 w162:Sq 166 ZyK->Sq 131 ZyJ->Sq 167 c157->Sq 78 c162
 w161:Sq 48 Zxz->Sq 223 c85->Sq 166 ZyK
 w143:Sq 175 c143
 w118:Sq 378 c117->Sq 355 Zyp
 w185:Sq 207 ZyW->Sq 206 ZyX
 w182:Sq 144 ZwF->Sq 228 c182
 w84:Sq 34 c1->Sq 62 c52->Sq 63 c82->Sq 64 c83->Sq 19 c84
 w37:Sq 106 c35->Sq 103 c14->Sq 149 c36->Sq 70 c37
 w53:Sq 172 c23->Sq 213 c22->Sq 123 c53
 w26:Sq 393 c25->Sq 172 c23->Sq 383 c26
 w81:Sq 71 c61->Sq 51 c42->Sq 52 c45->Sq 72 c80->Sq 23 c81
 w27:Sq 383 c26->Sq 369 c27
 w25:Sq 172 c23->Sq 393 c25
 w5:Sq 382 c4->Sq 37 c2->Sq 367 c5
 w4:Sq 37 c2->Sq 382 c4
 w6:Sq 367 c5->Sq 343 c6
 w8:Sq 37 c2->Sq 300 c3->Sq 301 c7->Sq 251 c8
 w3:Sq 300 c3
 w17:Sq 37 c2->Sq 184 c15->Sq 97 c16->Sq 102 c17
 w71:Sq 318 c70->Sq 271 c67->Sq 269 c71
 w55:Sq 70 c37->Sq 51 c42->Sq 145 c54->Sq 150 c55
 w48:Sq 280 c48
 w65:Sq 98 c13->Sq 316 c64->Sq 267 c65
 w61:Sq 70 c37->Sq 123 c53->Sq 150 c55->Sq 83 c58->Sq 146 c60->Sq 71 c61
set_option maxHeartbeats 100000000 in
theorem ws0:Ws0:=by
 refine ⟨(Zg Zu Zk mixed {} Tryz.func238 (hvc:=?_)),
 (λq4 q3 q2 q0 q1 q5=>Zg Zu (Zb q4 (Zb q3 (Zb q2 (Zb q0 (Zb q1 (Zb q5 Zk)))))) mixed {draws:=[(2,[0,1,3,7,15,31,63,127,255,511,1023,2047,4095,8191,16383,32767,65535,32767,163839,524287,1048575,2097151,4194303,8388607,16777215,33554431,67108863,134217727,134217727,402653183,1073741823,2147483647,4294967295,8589934591,17179869183,8589934591,42949672959,137438953471,274877906943,549755813887],.u 0 12 (.alt 12 (.u 13 5 (.alt 18 (.u 19 11 (.alt 30 (.u 31 9 .done) .done)) .done)) .done)),(3,[0,1,3,7,15,31,63,127,255,511,1023,2047,4095,2047,10239,32767,65535,131071,262143,262143,786431,2097151,4194303,8388607],.o [0,1] (.alt 2 (.u 3 4 (.alt 7 (.u 8 6 (.alt 14 (.u 15 6 (.alt 21 (.o [22,23] .done) .done)) .done)) .done)) .done))]} Tryz.func354 (hvc:=?_)),
 (λq0 q1=>Zg Zu (Zb q0 (Zb q1 Zk)) mixed {} Tryz.func377 (hvc:=?_)),
 (λq1 q0=>Zg Zu (Zb q1 (Zb q0 Zk)) mixed {} Tryz.func113 (hvc:=?_)),
 (λq0=>Zg Zu (Zb q0 Zk) mixed {} Tryz.func131 (hvc:=?_)),
 (Zg Zu Zk mixed {} Tryz.func208 (hvc:=?_)),
 (λq0 q1=>Zg Zu (Zb q0 (Zb q1 Zk)) mixed {loops:=[(0,[.reg 13 (.dat Iq),.reg 34 (.dat Iq)]),(2,[.reg 13 (.dat Iq),.reg 40 (.dat Iq)])],draws:=[(10,[0,0,2,0,8,0,32,96,248,0,512,2040,4094,8190,0,16384,65534,0,131072,524286,1048575,2097151],.u 0 22 .done)]} Tryz.func262 (hvc:=?_)),
 (λq1 q0=>Zg Zu (Zb q1 (Zb q0 Zk)) mixed {draws:=[(1,[0,1,3,0,8,31,0,64,255,511,1023],.o [0,1,3,4,6,7] (.a [2,5,8] (.op 9 (.alt 10 .done .done))))]} Tryz.func66 (hvc:=?_)),
 (Zg Zu Zk mixed {} Tryz.func198 (hvc:=?_)),
 (λq1 q0=>Zg Zu (Zb q1 (Zb q0 Zk)) mixed {} Tryz.func388 (hvc:=?_)),
 (λq0=>Zg Zu (Zb q0 Zk) mixed {} Tryz.func226 (hvc:=?_)),
 (λq0=>Zg Zu (Zb q0 Zk) mixed {loops:=[(0,[.reg 5 (.own (.ol 2 (.flat Iq))),.reg 16 (.dat Iq)])]} Tryz.func202 (hvc:=?_)),
 (Zg Zu Zk mixed {} Tryz.func209 (hvc:=?_)),
 (Zg Zu Zk mixed {} Tryz.func200 (hvc:=?_)),
 (Zg Zu Zk mixed {} Tryz.func60 (hvc:=?_)),
 (Zg Zu Zk mixed {} Tryz.func232 (hvc:=?_)),
 (λq0=>Zg Zu (Zb q0 Zk) mixed {} Tryz.func264 (hvc:=?_)),
 (Zg Zu Zk mixed {draws:=[(1,[0,1,3,7,15,31,0,64,192,448,0,1024,3072,8128,16320,32704,65535,131071,0,524287],.u 0 18 (.a [18,19] .done)),(2,[0,1,3,7,15,31,0,64,255,511,1023,0,2048,8191,16383,32767],.u 0 15 (.alt 15 .done .done))]} Tryz.func261 (hvc:=?_)),
 (λq0 q2 q1=>Zg Zu (Zb q0 (Zb q2 (Zb q1 Zk))) mixed {loops:=[(0,[.reg 9 (.dat Iq)])],draws:=[(4,[0,0,2,7,15,31,63,127,255,511,1023,2047,4095,8191,16383,32767,65535,131071,262143,524287,1048575,2097151,2097151,6291455,16777215,33554431,67108863,2097151,136314879,536870911,1073741823,2147483647],.o [0,1,2] (.alt 3 (.u 4 4 (.alt 8 (.u 9 5 (.alt 14 (.u 15 17 .done) .done)) .done)) .done))]} Tryz.func78 (hvc:=?_)),
 (λq0 q1=>Zg Zu (Zb q0 (Zb q1 Zk)) mixed {} Tryz.func166 (hvc:=?_)),
 (Zg Zu Zk mixed {} Tryz.func175 (hvc:=?_)),
 (λq0=>Zg Zu (Zb q0 Zk) mixed {} Tryz.func355 (hvc:=?_)),
 (λq0=>Zg Zu (Zb q0 Zk) mixed {loops:=[(0,[.reg 8 (.dat Iq)])]} Tryz.func206 (hvc:=?_)),
 (λq0=>Zg Zu (Zb q0 Zk) mixed {loops:=[(0,[.reg 8 (.dat Iq)])]} Tryz.func228 (hvc:=?_)),
 (λq3 q2 q0 q1=>Zg Zu (Zb q3 (Zb q2 (Zb q0 (Zb q1 Zk)))) mixed {draws:=[(4,[0,0,0,0,0,0,0,96,225,483,999,2031,4095,8191],.o [2,3,5,6] (.ld 0 (.alt 1 (.alt 4 (.a [7,8,9] (.o [10,11] (.alt 12 (.op 13 .done) .done))) (.alt 7 (.alt 4 (.a [8,9] (.o [10,11] (.alt 12 (.op 13 .done) .done))) (.alt 8 (.alt 4 (.alt 9 (.o [10,11] (.alt 12 (.op 13 .done) .done)) .done) (.alt 9 (.o [10,11] (.a [4,12] (.op 13 .done))) .done)) .done)) .done)) (.alt 4 (.alt 1 (.a [7,8,9] (.o [10,11] (.alt 12 (.op 13 .done) .done))) (.alt 7 (.alt 1 (.a [8,9] (.o [10,11] (.alt 12 (.op 13 .done) .done))) (.a [8,1,9] (.o [10,11] (.alt 12 (.op 13 .done) .done)))) .done)) (.alt 7 (.alt 1 (.alt 4 (.a [8,9] (.o [10,11] (.alt 12 (.op 13 .done) .done))) (.alt 8 (.alt 4 (.alt 9 (.o [10,11] (.alt 12 (.op 13 .done) .done)) .done) (.alt 9 (.o [10,11] (.a [4,12] (.op 13 .done))) .done)) .done)) (.alt 4 (.alt 1 (.a [8,9] (.o [10,11] (.alt 12 (.op 13 .done) .done))) (.a [8,1,9] (.o [10,11] (.alt 12 (.op 13 .done) .done)))) (.alt 8 (.alt 1 (.alt 4 (.alt 9 (.o [10,11] (.alt 12 (.op 13 .done) .done)) .done) (.alt 9 (.o [10,11] (.a [4,12] (.op 13 .done))) .done)) (.a [4,1,9] (.o [10,11] (.alt 12 (.op 13 .done) .done)))) .done))) .done)))))]} Tryz.func19 (hvc:=?_)),
 (λq0 q1 q2=>Zg Zu (Zb q0 (Zb q1 (Zb q2 Zk))) mixed {loops:=[(0,[.reg 3 (.dat Iq)])],draws:=[(6,[0,1,0,7,15,0,32,0,224,480,1023,2047],.u 0 8 (.alt 8 (.op 9 (.alt 10 (.op 11 .done) .done)) .done))]} Tryz.func70 (hvc:=?_)),
 (λq1 q0=>Zg Zu (Zb q1 (Zb q0 Zk)) mixed {loops:=[(0,[.reg 4 (.dat Iq)])]} Tryz.func123 (hvc:=?_)),
 (λq0 q1=>Zg Zu (Zb q0 (Zb q1 Zk)) mixed {loops:=[(0,[.reg 3 (.dat Iq)])]} Tryz.func383 (hvc:=?_)),
 (λq1 q0 q2 q3=>Zg Zu (Zb q1 (Zb q0 (Zb q2 (Zb q3 Zk)))) mixed {draws:=[(5,[0,0,0,0,0,24,0,0,255,511,1023,1023,0,6143,16383],.u 0 5 (.o [6,7] (.alt 5 (.alt 8 (.o [9,10,11] (.a [12,13] (.op 14 .done))) (.a [12,8] (.o [9,10,11] (.alt 13 (.op 14 .done) .done)))) (.a [12,5,8] (.o [9,10,11] (.alt 13 (.op 14 .done) .done))))))]} Tryz.func23 (hvc:=?_)),
 (λq0=>Zg Zu (Zb q0 Zk) mixed {loops:=[(0,[.reg 5 (.dat Iq),.cell 1004 0 Iq,.cell 1004 1 Iq])],draws:=[(3,[0,1,3,7,0,16,48,112,255,0,1023],.u 0 9 (.a [9,10] .done)),(7,[0,1,0,4,0,28,60,127,255,511],.u 0 9 (.alt 9 .done .done)),(8,[0,1,0,4,0,28,60,127,255,511],.u 0 9 (.alt 9 .done .done))]} Tryz.func369 (hvc:=?_)),
 (λq0=>Zg Zu (Zb q0 Zk) mixed {loops:=[(0,[.reg 3 (.dat Iq)])],draws:=[(4,[0,0,3,7,15,31,63,127,255,511,1023,1023,3071,8191,16383,1023,1023,99327,230399,524287,1048575,2097151],.u 0 4 (.alt 4 (.u 5 17 .done) .done))]} Tryz.func393 (hvc:=?_)),
 (λq0 q1=>Zg Zu (Zb q0 (Zb q1 Zk)) mixed {loops:=[(0,[.reg 7 (.own (.ol 2 (.flat Iq))),.reg 9 (.dat Iq),.cell 1000 0 (.sl (.int .u8)),.cell 1000 1 Iq,.cell 1000 2 Iq])],draws:=[(10,[0,0,0,4,14,30,0,64,254,511,1023],.u 0 5 (.op 6 (.alt 5 (.alt 7 (.o [8,9,10] .done) .done) (.a [7,5] (.o [8,9,10] .done))))),(12,[0,0,0,0,12,30,62,0,128,510,1023,2047],.u 0 6 (.op 7 (.alt 6 (.alt 8 (.o [9,10,11] .done) .done) (.a [8,6] (.o [9,10,11] .done)))))]} Tryz.func367 (hvc:=?_)),
 (λq0=>Zg Zu (Zb q0 Zk) mixed {loops:=[(0,[.reg 5 (.own (.ol 2 (.flat Iq))),.reg 6 (.dat Iq),.reg 7 (.dat Iq),.cell 0 0 (.sl (.int .u8)),.cell 0 1 Iq,.cell 0 2 Iq])]} Tryz.func382 (hvc:=?_)),
 (λq0=>Zg ZcW (Zb q0 Zk) mixed {draws:=[(2,[0,0,0,6,15,31],.o [1,2] (.ld 0 (.a [3,4] (.op 5 .done))))]} Tryz.func343 (hvc:=?_)),
 (λq2 q1 q0=>Zg ZcW (Zb q2 (Zb q1 (Zb q0 Zk))) mixed {loops:=[(0,[.reg 9 (.own (.ol 329 (.flat (Zm4)))),.reg 10 (.dat Iq),.cell 1000 0 (.sl (.int .u8)),.cell 1000 1 Iq,.cell 1000 2 Iq]),(2,[.reg 12 (.own (.ol 213 (ZwI))),.reg 13 (.dat Iq),.cell 1000 0 (.sl (.int .u8)),.cell 1000 1 Iq,.cell 1000 2 Iq])],draws:=[(7,[0,0,0,4,14,30,0,64,192,510,1022,2047,4095],.u 0 5 (.op 6 (.alt 5 (.alt 7 (.o [8,9] (.a [10,11] (.op 12 .done))) .done) (.alt 7 (.op 8 (.alt 5 (.op 9 (.a [10,11] (.op 12 .done))) .done)) .done))))]} Tryz.func251 (hvc:=?_)),
 (Zg Zu Zk mixed {loops:=[(0,[.reg 5 (.dat (.bool)),.reg 6 (.dat (.bool)),.reg 8 (.dat Iq)])],draws:=[(7,[0,1,3,7,3,31,63,3,131,3,3,1539,3971,8067,16383,32767,65535],.u 0 17 .done),(8,[0,1,3,7,3,31,63,3,131,3,3,1539,3971,8067,16383,32767,65535],.u 0 17 .done)]} Tryz.func300 (hvc:=?_)),
 (λq1 q0 q2=>Zg Zu (Zb q1 (Zb q0 (Zb q2 Zk))) mixed {loops:=[(0,[.reg 6 (.dat Iq),.cell 1000 0 (.sl (.int .u8)),.cell 1000 1 Iq,.cell 1000 2 Iq,.cello 1005 0 (.ol (nat_lit 2) (.flat (Ty.int IntKind.i64))),.cello 1005 1 (.ol (nat_lit 2) (.flat (Ty.int IntKind.i64))),.cello 1005 2 (.ol (nat_lit 2) (.flat (Ty.int IntKind.i64))),.cello 1005 3 (.ol (nat_lit 2) (.flat (Ty.int IntKind.i64)))]),(2,[.reg 8 (.dat Iq),.cell 1000 0 (.sl (.int .u8)),.cell 1000 1 Iq,.cell 1000 2 Iq,.ent 10 (nat_lit 2) (.flat (Ty.int IntKind.i64))])],draws:=[(6,[0,1,3,0,0,31,63,127,0,256,1023,0,4095,8191,16383,0,32768,131071,0,524287,1048575,2097151,0,4194304,16777215,33554431],.o [0,1,3,4,8,11,15,18,22] (.l [9,16,23] (.a [2,5,6,7,10,12,13,14,17,19,20,21] (.op 24 (.alt 25 .done .done))))),(10,[0,1,0,0,0,16,48,120,255,511],.op 0 (.u 2 5 (.ld 1 (.alt 7 (.op 8 (.alt 9 .done .done)) .done))))]} Tryz.func102 (hvc:=?_)),
 (λq0 q1=>Zg Zu (Zb q0 (Zb q1 Zk)) mixed {loops:=[(0,[.reg 8 (.own (.ol 2 (.flat Iq))),.reg 9 (.dat Iq)])]} Tryz.func269 (hvc:=?_)),
 (λq2 q1 q0=>Zg Zu (Zb q2 (Zb q1 (Zb q0 Zk))) mixed {} Tryz.func150 (hvc:=?_)),
 (Zg Zu Zk mixed {loops:=[(0,[.reg 7 (.dat Iq)])]} Tryz.func280 (hvc:=?_)),
 (λq0 q1=>Zg Zu (Zb q0 (Zb q1 Zk)) mixed {draws:=[(1,[0,1,3,0,8,24,63,127,0,511],.o [0,1,3,4,5] (.alt 2 (.o [6,7] (.a [8,9] .done)) (.a [8,2] (.o [6,7] (.alt 9 .done .done))))),(2,[0,1,3,0,8,24,0,64,248,504,1016,2047,4095,8191,0,16384,65535,131071,0,0,524288,1835008,3932160,8126464,4194303,33554431],.u 0 21 (.alt 21 (.op 22 (.alt 23 (.alt 24 (.op 25 .done) .done) (.a [24,23] (.op 25 .done)))) .done))]} Tryz.func267 (hvc:=?_)),
 (λq3 q2 q4 q1 q0=>Zg Zu (Zb q3 (Zb q2 (Zb q4 (Zb q1 (Zb q0 Zk))))) mixed {} Tryz.func71 (hvc:=?_))⟩
 all_goals
  intro a;repeat rcases a with ⟨_,a⟩
  rintro K ⟨r,h,hK⟩;repeat'
    conv=>whnf
    first
    | with_reducible refine ZrN ?_
    | with_reducible refine ZeX (by assumption) (by assumption) (by assumption) ?_
    | with_reducible refine Yd (by assumption) ?_
    | with_reducible refine ZeZ (by assumption) ?_
    | (with_reducible refine shD ?_);first | refine ZlD h (λh=>?_) (λh=>?_) | refine Zq7 h (λh=>?_) (λh=>?_)
    | (with_reducible refine ZsO ?_);first | refine Zwh ?_ | refine Zo7 ?_
    | (with_reducible refine Zw8 ?_);first | refine Zs5 h (λh=>?_) (λh=>?_) | refine Zs6 h (λh=>?_) (λh=>?_)
    | (with_reducible refine ZsN ?_);(refine ⟨λhd=>?_,?_⟩)<;>try subst hd
    | (with_reducible refine Zxa ?_);first | with_reducible refine ZaJ h (λx hb h=>?_) | refine ZeZ (by assumption) ?_ | with_reducible refine pG h (λhp h=>?_) | with_reducible refine pA h (λx ha hb hx h=>?_) | with_reducible refine pB h (λx hb h=>?_) | refine ZaJ h (λx hb h=>?_)
    | (with_reducible refine Zw7 ?_);first | with_reducible refine vAt h (λx ha hb hx h=>?_) | refine ZeX (by assumption) (by assumption) (by assumption) ?_ | with_reducible refine pG h (λhp h=>?_) | with_reducible refine pA h (λx ha hb hx h=>?_) | with_reducible refine pB h (λx hb h=>?_) | refine vAt h (λx ha hb hx h=>?_)
    | (with_reducible refine ZsM ?_);first | with_reducible refine ZlC h (λx hb h=>?_) | refine Yd (by assumption) ?_ | with_reducible refine pG h (λhp h=>?_) | with_reducible refine pA h (λx ha hb hx h=>?_) | with_reducible refine pB h (λx hb h=>?_) | refine ZlC h (λx hb h=>?_)
    | with_reducible refine Zw9 ?_
    | (with_reducible refine ZnZ ?_);refine Zoh h hK ?_;clear h hK;intro I μ v r h hK;(repeat rcases v with ⟨_,v⟩);(try dsimp only at h)
    | with_reducible refine ⟨by assumption,?_⟩
    | with_reducible refine orL ?_
    | with_reducible refine .inr ?_
    | (with_reducible refine ZsP ?_);first | refine ⟨?_,True.intro⟩ | refine ⟨?_,?_⟩
    | refine ⟨by kernel_rfl,?_⟩
    | refine ⟨by decide,?_⟩
    | with_reducible refine Zs7 h (λhp h=>?_)
    | intro fp
    | exact trivial
    | with_reducible exact ZrG h
    | (refine pS h (λe=>?_));subst e;(repeat (first | exact hK | exact ⟨⟨rfl,rfl⟩,hK.1 _ rfl⟩ | (refine pR hK (λe hK=>?_));subst e));done
    | refine Zs7 h (λhp h=>?_)
    | refine ⟨by assumption,?_⟩
    | with_reducible refine pG h (λhp h=>?_) | with_reducible refine pA h (λx ha hb hx h=>?_) | with_reducible refine pB h (λx hb h=>?_)
    | refine pG h (λhp h=>?_)
    | fail
theorem w_laws_FnUpdate (q7:Sq 8 c0) (q0:Sq 19 c84) (q2:Sq 20 c208) (q3:Sq 21 ZDY) (q1:Sq 16 ZD0) (q5:Sq 22 ZD1) (q4:Sq 14 ZD2) (q6:Sq 17 ZD3):Sq 5 ZCn:=by
 refine Zg Zu (Zb q7 (Zb q0 (Zb q2 (Zb q3 (Zb q1 (Zb q5 (Zb q4 (Zb q6 Zk)))))))) mixed {loops:=[(0,[.reg 20 (.own (.ol 2 (.flat Iq))),.reg 21 (.dat Iq)])]} (fn:=Tryz.f5) Tryz.func5 (by kernel_rfl) (by kernel_rfl) ?_;rintro ⟨a0,⟨⟩⟩ K ⟨r,h,hK⟩
 change ZCg a0=some r at h
 unfold ZCg at h
 conv=>whnf
 refine ZaJ h (λbig0 hb0 h=>?_)
 conv=>whnf
 refine Zs5 h (λh=>?_) (λh=>?_)
 conv=>whnf
 cases h;exact hK
 conv=>whnf
 refine ZaJ h (λDrawUpdateTiming0 hb1 h=>?_)
 conv=>whnf
 refine ZaJ h (λUpdateTiming0 hb2 h=>?_)
 conv=>whnf
 refine ZaJ h (λUpdateTiming1 hb3 h=>?_)
 conv=>whnf
 refine Zo7 ?_;refine ZlD h (λh=>?_) (λh=>?_)
 conv=>whnf
 refine Zo7 ?_;refine ZlD h (λh=>?_) (λh=>?_)
 conv=>whnf
 refine ZaJ h (λPropagateTiming0 hb4 h=>?_)
 conv=>whnf
 refine Zo7 ?_;refine ZlD h (λh=>?_) (λh=>?_)
 conv=>whnf
 refine ZaJ h (λUpdateTiming2 hb5 h=>?_)
 conv=>whnf
 refine ZzH h ?_;rintro I6 μ6 ⟨v0,v1,⟨⟩⟩ zs6 h hI6 hR6
 change ZB5 DrawUpdateTiming0 PropagateTiming0 UpdateTiming2 v0 v1=some zs6 at h
 unfold ZB5 at h
 conv=>whnf
 refine ZaJ h (λNodeCount0 hb7 h=>?_)
 conv=>whnf
 refine ZlD h (λh=>?_) (λh=>?_)
 conv=>whnf
 refine Zs7 h (λhp8 h=>?_)
 conv=>whnf
 cases h;exact ⟨⟨rfl,rfl⟩,hI6 _ rfl⟩
 conv=>whnf
 refine ZaJ h (λUpdateTiming3 hb9 h=>?_)
 conv=>whnf
 refine ZaJ h (λWrongNodes0 hb10 h=>?_)
 conv=>whnf
 refine ZlD h (λh=>?_) (λh=>?_)
 conv=>whnf
 refine ZlD h (λh=>?_) (λh=>?_)
 conv=>whnf
 refine ZlD h (λh=>?_) (λh=>?_)
 conv=>whnf
 refine ZaJ h (λw5Timing0 hb11 h=>?_)
 conv=>whnf
 refine Zs5 h (λh=>?_) (λh=>?_)
 conv=>whnf
 refine ZlD h (λh=>?_) (λh=>?_)
 conv=>whnf
 refine ZaJ h (λw5Timing1 hb12 h=>?_)
 conv=>whnf
 refine Zs5 h (λh=>?_) (λh=>?_)
 conv=>whnf
 refine ZlD h (λh=>?_) (λh=>?_)
 conv=>whnf
 cases h;obtain rfl:=hR6 _ rfl;exact hK
 conv=>whnf
 cases h;obtain rfl:=hR6 _ rfl;exact hK
 conv=>whnf
 cases h;obtain rfl:=hR6 _ rfl;exact hK
 conv=>whnf
 cases h;obtain rfl:=hR6 _ rfl;exact hK
 conv=>whnf
 cases h;obtain rfl:=hR6 _ rfl;exact hK
 conv=>whnf
 cases h;obtain rfl:=hR6 _ rfl;exact hK
 conv=>whnf
 cases h;obtain rfl:=hR6 _ rfl;exact hK
 conv=>whnf
 cases h;obtain rfl:=hR6 _ rfl;exact hK
 conv=>whnf
 cases h;exact hK
 conv=>whnf
 cases h;exact hK
 conv=>whnf
 cases h;exact hK
theorem w21 (q0:Sq 37 c2):Sq 135 c21:=by
 refine Zg Zu (Zb q0 Zk) mixed {draws:=[(1,[0,0,2,7,15,0,38,102,230,0,614,1638,3686,8191,0,32767],.o [1,5,9] (.alt 0 (.alt 2 (.op 3 (.alt 4 (.alt 6 (.o [7,8] (.alt 10 (.o [11,12,13] (.a [14,15] .done)) (.a [14,10] (.o [11,12,13] (.alt 15 .done .done))))) (.a [14,6] (.o [7,8] (.alt 10 (.o [11,12,13] (.alt 15 .done .done)) .done)))) (.alt 6 (.o [7,8] (.alt 4 (.alt 10 (.o [11,12,13] (.a [14,15] .done)) (.a [14,10] (.o [11,12,13] (.alt 15 .done .done)))) (.alt 10 (.o [11,12] (.alt 4 (.op 13 (.a [14,15] .done)) (.a [14,4] (.op 13 (.alt 15 .done .done))))) (.alt 14 (.alt 4 (.alt 10 (.o [11,12,13] (.alt 15 .done .done)) .done) (.alt 10 (.o [11,12] (.alt 4 (.op 13 (.alt 15 .done .done)) .done)) .done)) .done)))) (.alt 14 (.alt 4 (.alt 6 (.o [7,8] (.alt 10 (.o [11,12,13] (.alt 15 .done .done)) .done)) .done) (.alt 6 (.o [7,8] (.alt 4 (.alt 10 (.o [11,12,13] (.alt 15 .done .done)) .done) (.alt 10 (.o [11,12] (.alt 4 (.op 13 (.alt 15 .done .done)) .done)) .done))) .done)) .done)))) (.a [14,2] (.op 3 (.alt 4 (.alt 6 (.o [7,8] (.alt 10 (.o [11,12,13] (.alt 15 .done .done)) .done)) .done) (.alt 6 (.o [7,8] (.alt 4 (.alt 10 (.o [11,12,13] (.alt 15 .done .done)) .done) (.alt 10 (.o [11,12] (.alt 4 (.op 13 (.alt 15 .done .done)) .done)) .done))) .done))))) (.alt 2 (.alt 0 (.op 3 (.alt 4 (.alt 6 (.o [7,8] (.alt 10 (.o [11,12,13] (.a [14,15] .done)) (.a [14,10] (.o [11,12,13] (.alt 15 .done .done))))) (.a [14,6] (.o [7,8] (.alt 10 (.o [11,12,13] (.alt 15 .done .done)) .done)))) (.alt 6 (.o [7,8] (.alt 4 (.alt 10 (.o [11,12,13] (.a [14,15] .done)) (.a [14,10] (.o [11,12,13] (.alt 15 .done .done)))) (.alt 10 (.o [11,12] (.alt 4 (.op 13 (.a [14,15] .done)) (.a [14,4] (.op 13 (.alt 15 .done .done))))) (.alt 14 (.alt 4 (.alt 10 (.o [11,12,13] (.alt 15 .done .done)) .done) (.alt 10 (.o [11,12] (.alt 4 (.op 13 (.alt 15 .done .done)) .done)) .done)) .done)))) (.alt 14 (.alt 4 (.alt 6 (.o [7,8] (.alt 10 (.o [11,12,13] (.alt 15 .done .done)) .done)) .done) (.alt 6 (.o [7,8] (.alt 4 (.alt 10 (.o [11,12,13] (.alt 15 .done .done)) .done) (.alt 10 (.o [11,12] (.alt 4 (.op 13 (.alt 15 .done .done)) .done)) .done))) .done)) .done)))) (.alt 6 (.o [7,8] (.alt 0 (.op 3 (.alt 4 (.alt 10 (.o [11,12,13] (.a [14,15] .done)) (.a [14,10] (.o [11,12,13] (.alt 15 .done .done)))) (.alt 10 (.o [11,12] (.alt 4 (.op 13 (.a [14,15] .done)) (.a [14,4] (.op 13 (.alt 15 .done .done))))) (.alt 14 (.alt 4 (.alt 10 (.o [11,12,13] (.alt 15 .done .done)) .done) (.alt 10 (.o [11,12] (.alt 4 (.op 13 (.alt 15 .done .done)) .done)) .done)) .done)))) (.alt 10 (.o [11,12] (.alt 0 (.op 3 (.alt 4 (.op 13 (.a [14,15] .done)) (.a [14,4] (.op 13 (.alt 15 .done .done))))) (.a [14,0] (.op 3 (.alt 4 (.op 13 (.alt 15 .done .done)) .done))))) (.alt 14 (.alt 0 (.op 3 (.alt 4 (.alt 10 (.o [11,12,13] (.alt 15 .done .done)) .done) (.alt 10 (.o [11,12] (.alt 4 (.op 13 (.alt 15 .done .done)) .done)) .done))) (.alt 10 (.o [11,12] (.alt 0 (.op 3 (.alt 4 (.op 13 (.alt 15 .done .done)) .done)) .done)) .done)) .done)))) (.alt 14 (.alt 0 (.op 3 (.alt 4 (.alt 6 (.o [7,8] (.alt 10 (.o [11,12,13] (.alt 15 .done .done)) .done)) .done) (.alt 6 (.o [7,8] (.alt 4 (.alt 10 (.o [11,12,13] (.alt 15 .done .done)) .done) (.alt 10 (.o [11,12] (.alt 4 (.op 13 (.alt 15 .done .done)) .done)) .done))) .done))) (.alt 6 (.o [7,8] (.alt 0 (.op 3 (.alt 4 (.alt 10 (.o [11,12,13] (.alt 15 .done .done)) .done) (.alt 10 (.o [11,12] (.alt 4 (.op 13 (.alt 15 .done .done)) .done)) .done))) (.alt 10 (.o [11,12] (.alt 0 (.op 3 (.alt 4 (.op 13 (.alt 15 .done .done)) .done)) .done)) .done))) .done)) .done))) (.alt 14 (.alt 0 (.alt 2 (.op 3 (.alt 4 (.alt 6 (.o [7,8] (.alt 10 (.o [11,12,13] (.alt 15 .done .done)) .done)) .done) (.alt 6 (.o [7,8] (.alt 4 (.alt 10 (.o [11,12,13] (.alt 15 .done .done)) .done) (.alt 10 (.o [11,12] (.alt 4 (.op 13 (.alt 15 .done .done)) .done)) .done))) .done))) .done) (.alt 2 (.alt 0 (.op 3 (.alt 4 (.alt 6 (.o [7,8] (.alt 10 (.o [11,12,13] (.alt 15 .done .done)) .done)) .done) (.alt 6 (.o [7,8] (.alt 4 (.alt 10 (.o [11,12,13] (.alt 15 .done .done)) .done) (.alt 10 (.o [11,12] (.alt 4 (.op 13 (.alt 15 .done .done)) .done)) .done))) .done))) (.alt 6 (.o [7,8] (.alt 0 (.op 3 (.alt 4 (.alt 10 (.o [11,12,13] (.alt 15 .done .done)) .done) (.alt 10 (.o [11,12] (.alt 4 (.op 13 (.alt 15 .done .done)) .done)) .done))) (.alt 10 (.o [11,12] (.alt 0 (.op 3 (.alt 4 (.op 13 (.alt 15 .done .done)) .done)) .done)) .done))) .done)) .done)) .done)))),(2,[0,1,0,4,12,31,63,127],.o [0,2] (.ld 1 (.alt 3 (.o [4,5,6] (.alt 7 .done .done)) .done))),(3,[0,1,0,4,12,31,63,127],.o [0,2] (.ld 1 (.alt 3 (.o [4,5,6] (.alt 7 .done .done)) .done)))]} (fn:=Tryz.f135) Tryz.func135 (by kernel_rfl) (by kernel_rfl) ?_;rintro ⟨s0,⟨⟩⟩ K ⟨r,h,hK⟩
 change QB s0=some r at h
 unfold QB at h
 focus
  conv=>whnf
  refine ⟨by kernel_rfl,?_⟩
  conv=>whnf
  obtain ⟨l01Next0,hb0,h⟩:=Option.bind_eq_some_iff.1 h;obtain ⟨x0,he1a,he1b,he1x,h⟩:=atE h;obtain ⟨l01Next1,hb2,h⟩:=Option.bind_eq_some_iff.1 h;obtain ⟨l01Next2,hb3,h⟩:=Option.bind_eq_some_iff.1 h;refine ⟨?_,?_⟩;rotate_left
  focus
   conv=>whnf
   refine ⟨?_,?_⟩;rotate_left
   focus
    conv=>whnf
    refine ⟨?_,?_⟩;rotate_left
    focus
     conv=>whnf
     refine ⟨_,hb0,?_⟩
     conv=>whnf
     refine ⟨?_,?_⟩;rotate_left
     focus
      conv=>whnf
      refine ⟨_,hb2,?_⟩
      conv=>whnf
      refine ⟨?_,?_⟩;rotate_left
      focus
       conv=>whnf
       refine ⟨_,hb3,?_⟩
       conv=>whnf
       refine ⟨he1a,he1b,Yd he1x ?_⟩
       conv=>whnf
       refine ⟨by kernel_rfl,?_⟩
       conv=>whnf
       refine ⟨he1a,he1b,Yd he1x ?_⟩
       conv=>whnf
       refine ⟨trivial,?_⟩
      rotate_right
      focus
       conv=>whnf
       refine ⟨he1a,he1b,Yd he1x ?_⟩
       conv=>whnf
       refine ⟨?_,?_⟩;rotate_left
       focus
        conv=>whnf
        refine ⟨_,hb3,?_⟩
        conv=>whnf
        refine ⟨by kernel_rfl,?_⟩
        conv=>whnf
        refine ⟨he1a,he1b,Yd he1x ?_⟩
        conv=>whnf
        refine ⟨trivial,?_⟩
       rotate_right
       focus
        conv=>whnf
        refine ⟨by kernel_rfl,?_⟩
        conv=>whnf
        refine ⟨he1a,he1b,Yd he1x ?_⟩
        conv=>whnf
        refine ⟨_,hb3,?_⟩
        conv=>whnf
        refine ⟨trivial,?_⟩
     rotate_right
     focus
      conv=>whnf
      refine ⟨he1a,he1b,Yd he1x ?_⟩
      conv=>whnf
      refine ⟨?_,?_⟩;rotate_left
      focus
       conv=>whnf
       refine ⟨_,hb2,?_⟩
       conv=>whnf
       refine ⟨?_,?_⟩;rotate_left
       focus
        conv=>whnf
        refine ⟨_,hb3,?_⟩
        conv=>whnf
        refine ⟨by kernel_rfl,?_⟩
        conv=>whnf
        refine ⟨he1a,he1b,Yd he1x ?_⟩
        conv=>whnf
        refine ⟨trivial,?_⟩
       rotate_right
       focus
        conv=>whnf
        refine ⟨by kernel_rfl,?_⟩
        conv=>whnf
        refine ⟨he1a,he1b,Yd he1x ?_⟩
        conv=>whnf
        refine ⟨_,hb3,?_⟩
        conv=>whnf
        refine ⟨trivial,?_⟩
      rotate_right
      focus
       conv=>whnf
       refine ⟨by kernel_rfl,?_⟩
       conv=>whnf
       refine ⟨he1a,he1b,Yd he1x ?_⟩
       conv=>whnf
       refine ⟨_,hb2,?_⟩
       conv=>whnf
       refine ⟨_,hb3,?_⟩
       conv=>whnf
       refine ⟨trivial,?_⟩
    rotate_right
    focus
     conv=>whnf
     refine ⟨_,hb0,?_⟩
     conv=>whnf
     refine ⟨he1a,he1b,Yd he1x ?_⟩
     conv=>whnf
     refine ⟨?_,?_⟩;rotate_left
     focus
      conv=>whnf
      refine ⟨_,hb2,?_⟩
      conv=>whnf
      refine ⟨?_,?_⟩;rotate_left
      focus
       conv=>whnf
       refine ⟨_,hb3,?_⟩
       conv=>whnf
       refine ⟨by kernel_rfl,?_⟩
       conv=>whnf
       refine ⟨he1a,he1b,Yd he1x ?_⟩
       conv=>whnf
       refine ⟨trivial,?_⟩
      rotate_right
      focus
       conv=>whnf
       refine ⟨by kernel_rfl,?_⟩
       conv=>whnf
       refine ⟨he1a,he1b,Yd he1x ?_⟩
       conv=>whnf
       refine ⟨_,hb3,?_⟩
       conv=>whnf
       refine ⟨trivial,?_⟩
     rotate_right
     focus
      conv=>whnf
      refine ⟨by kernel_rfl,?_⟩
      conv=>whnf
      refine ⟨he1a,he1b,Yd he1x ?_⟩
      conv=>whnf
      refine ⟨_,hb2,?_⟩
      conv=>whnf
      refine ⟨_,hb3,?_⟩
      conv=>whnf
      refine ⟨trivial,?_⟩
   rotate_right
   focus
    conv=>whnf
    refine ⟨_,hb0,?_⟩
    conv=>whnf
    refine ⟨?_,?_⟩;rotate_left
    focus
     conv=>whnf
     refine ⟨?_,?_⟩;rotate_left
     focus
      conv=>whnf
      refine ⟨?_,?_⟩;rotate_left
      focus
       conv=>whnf
       refine ⟨_,hb2,?_⟩
       conv=>whnf
       refine ⟨?_,?_⟩;rotate_left
       focus
        conv=>whnf
        refine ⟨_,hb3,?_⟩
        conv=>whnf
        refine ⟨he1a,he1b,Yd he1x ?_⟩
        conv=>whnf
        refine ⟨by kernel_rfl,?_⟩
        conv=>whnf
        refine ⟨he1a,he1b,Yd he1x ?_⟩
        conv=>whnf
        refine ⟨trivial,?_⟩
       rotate_right
       focus
        conv=>whnf
        refine ⟨he1a,he1b,Yd he1x ?_⟩
        conv=>whnf
        refine ⟨?_,?_⟩;rotate_left
        focus
         conv=>whnf
         refine ⟨_,hb3,?_⟩
         conv=>whnf
         refine ⟨by kernel_rfl,?_⟩
         conv=>whnf
         refine ⟨he1a,he1b,Yd he1x ?_⟩
         conv=>whnf
         refine ⟨trivial,?_⟩
        rotate_right
        focus
         conv=>whnf
         refine ⟨by kernel_rfl,?_⟩
         conv=>whnf
         refine ⟨he1a,he1b,Yd he1x ?_⟩
         conv=>whnf
         refine ⟨_,hb3,?_⟩
         conv=>whnf
         refine ⟨trivial,?_⟩
      rotate_right
      focus
       conv=>whnf
       refine ⟨he1a,he1b,Yd he1x ?_⟩
       conv=>whnf
       refine ⟨?_,?_⟩;rotate_left
       focus
        conv=>whnf
        refine ⟨_,hb2,?_⟩
        conv=>whnf
        refine ⟨?_,?_⟩;rotate_left
        focus
         conv=>whnf
         refine ⟨_,hb3,?_⟩
         conv=>whnf
         refine ⟨by kernel_rfl,?_⟩
         conv=>whnf
         refine ⟨he1a,he1b,Yd he1x ?_⟩
         conv=>whnf
         refine ⟨trivial,?_⟩
        rotate_right
        focus
         conv=>whnf
         refine ⟨by kernel_rfl,?_⟩
         conv=>whnf
         refine ⟨he1a,he1b,Yd he1x ?_⟩
         conv=>whnf
         refine ⟨_,hb3,?_⟩
         conv=>whnf
         refine ⟨trivial,?_⟩
       rotate_right
       focus
        conv=>whnf
        refine ⟨by kernel_rfl,?_⟩
        conv=>whnf
        refine ⟨he1a,he1b,Yd he1x ?_⟩
        conv=>whnf
        refine ⟨_,hb2,?_⟩
        conv=>whnf
        refine ⟨_,hb3,?_⟩
        conv=>whnf
        refine ⟨trivial,?_⟩
     rotate_right
     focus
      conv=>whnf
      refine ⟨_,hb2,?_⟩
      conv=>whnf
      refine ⟨?_,?_⟩;rotate_left
      focus
       conv=>whnf
       refine ⟨?_,?_⟩;rotate_left
       focus
        conv=>whnf
        refine ⟨?_,?_⟩;rotate_left
        focus
         conv=>whnf
         refine ⟨_,hb3,?_⟩
         conv=>whnf
         refine ⟨he1a,he1b,Yd he1x ?_⟩
         conv=>whnf
         refine ⟨by kernel_rfl,?_⟩
         conv=>whnf
         refine ⟨he1a,he1b,Yd he1x ?_⟩
         conv=>whnf
         refine ⟨trivial,?_⟩
        rotate_right
        focus
         conv=>whnf
         refine ⟨he1a,he1b,Yd he1x ?_⟩
         conv=>whnf
         refine ⟨?_,?_⟩;rotate_left
         focus
          conv=>whnf
          refine ⟨_,hb3,?_⟩
          conv=>whnf
          refine ⟨by kernel_rfl,?_⟩
          conv=>whnf
          refine ⟨he1a,he1b,Yd he1x ?_⟩
          conv=>whnf
          refine ⟨trivial,?_⟩
         rotate_right
         focus
          conv=>whnf
          refine ⟨by kernel_rfl,?_⟩
          conv=>whnf
          refine ⟨he1a,he1b,Yd he1x ?_⟩
          conv=>whnf
          refine ⟨_,hb3,?_⟩
          conv=>whnf
          refine ⟨trivial,?_⟩
       rotate_right
       focus
        conv=>whnf
        refine ⟨_,hb3,?_⟩
        conv=>whnf
        refine ⟨?_,?_⟩;rotate_left
        focus
         conv=>whnf
         refine ⟨he1a,he1b,Yd he1x ?_⟩
         conv=>whnf
         refine ⟨by kernel_rfl,?_⟩
         conv=>whnf
         refine ⟨he1a,he1b,Yd he1x ?_⟩
         conv=>whnf
         refine ⟨trivial,?_⟩
        rotate_right
        focus
         conv=>whnf
         refine ⟨he1a,he1b,Yd he1x ?_⟩
         conv=>whnf
         refine ⟨?_,?_⟩;rotate_left
         focus
          conv=>whnf
          refine ⟨by kernel_rfl,?_⟩
          conv=>whnf
          refine ⟨he1a,he1b,Yd he1x ?_⟩
          conv=>whnf
          refine ⟨trivial,?_⟩
         rotate_right
         focus
          conv=>whnf
          refine ⟨by kernel_rfl,?_⟩
          conv=>whnf
          refine ⟨he1a,he1b,Yd he1x ?_⟩
          conv=>whnf
          refine ⟨trivial,?_⟩
      rotate_right
      focus
       conv=>whnf
       refine ⟨he1a,he1b,Yd he1x ?_⟩
       conv=>whnf
       refine ⟨?_,?_⟩;rotate_left
       focus
        conv=>whnf
        refine ⟨?_,?_⟩;rotate_left
        focus
         conv=>whnf
         refine ⟨?_,?_⟩;rotate_left
         focus
          conv=>whnf
          refine ⟨_,hb3,?_⟩
          conv=>whnf
          refine ⟨by kernel_rfl,?_⟩
          conv=>whnf
          refine ⟨he1a,he1b,Yd he1x ?_⟩
          conv=>whnf
          refine ⟨trivial,?_⟩
         rotate_right
         focus
          conv=>whnf
          refine ⟨by kernel_rfl,?_⟩
          conv=>whnf
          refine ⟨he1a,he1b,Yd he1x ?_⟩
          conv=>whnf
          refine ⟨_,hb3,?_⟩
          conv=>whnf
          refine ⟨trivial,?_⟩
        rotate_right
        focus
         conv=>whnf
         refine ⟨_,hb3,?_⟩
         conv=>whnf
         refine ⟨?_,?_⟩;rotate_left
         focus
          conv=>whnf
          refine ⟨by kernel_rfl,?_⟩
          conv=>whnf
          refine ⟨he1a,he1b,Yd he1x ?_⟩
          conv=>whnf
          refine ⟨trivial,?_⟩
         rotate_right
         focus
          conv=>whnf
          refine ⟨by kernel_rfl,?_⟩
          conv=>whnf
          refine ⟨he1a,he1b,Yd he1x ?_⟩
          conv=>whnf
          refine ⟨trivial,?_⟩
       rotate_right
       focus
        conv=>whnf
        refine ⟨by kernel_rfl,?_⟩
        conv=>whnf
        refine ⟨he1a,he1b,Yd he1x ?_⟩
        conv=>whnf
        refine ⟨?_,?_⟩;rotate_left
        focus
         conv=>whnf
         refine ⟨_,hb3,?_⟩
         conv=>whnf
         refine ⟨trivial,?_⟩
        rotate_right
        focus
         conv=>whnf
         refine ⟨_,hb3,?_⟩
         conv=>whnf
         refine ⟨trivial,?_⟩
    rotate_right
    focus
     conv=>whnf
     refine ⟨he1a,he1b,Yd he1x ?_⟩
     conv=>whnf
     refine ⟨?_,?_⟩;rotate_left
     focus
      conv=>whnf
      refine ⟨?_,?_⟩;rotate_left
      focus
       conv=>whnf
       refine ⟨?_,?_⟩;rotate_left
       focus
        conv=>whnf
        refine ⟨_,hb2,?_⟩
        conv=>whnf
        refine ⟨?_,?_⟩;rotate_left
        focus
         conv=>whnf
         refine ⟨_,hb3,?_⟩
         conv=>whnf
         refine ⟨by kernel_rfl,?_⟩
         conv=>whnf
         refine ⟨he1a,he1b,Yd he1x ?_⟩
         conv=>whnf
         refine ⟨trivial,?_⟩
        rotate_right
        focus
         conv=>whnf
         refine ⟨by kernel_rfl,?_⟩
         conv=>whnf
         refine ⟨he1a,he1b,Yd he1x ?_⟩
         conv=>whnf
         refine ⟨_,hb3,?_⟩
         conv=>whnf
         refine ⟨trivial,?_⟩
       rotate_right
       focus
        conv=>whnf
        refine ⟨by kernel_rfl,?_⟩
        conv=>whnf
        refine ⟨he1a,he1b,Yd he1x ?_⟩
        conv=>whnf
        refine ⟨_,hb2,?_⟩
        conv=>whnf
        refine ⟨_,hb3,?_⟩
        conv=>whnf
        refine ⟨trivial,?_⟩
      rotate_right
      focus
       conv=>whnf
       refine ⟨_,hb2,?_⟩
       conv=>whnf
       refine ⟨?_,?_⟩;rotate_left
       focus
        conv=>whnf
        refine ⟨?_,?_⟩;rotate_left
        focus
         conv=>whnf
         refine ⟨?_,?_⟩;rotate_left
         focus
          conv=>whnf
          refine ⟨_,hb3,?_⟩
          conv=>whnf
          refine ⟨by kernel_rfl,?_⟩
          conv=>whnf
          refine ⟨he1a,he1b,Yd he1x ?_⟩
          conv=>whnf
          refine ⟨trivial,?_⟩
         rotate_right
         focus
          conv=>whnf
          refine ⟨by kernel_rfl,?_⟩
          conv=>whnf
          refine ⟨he1a,he1b,Yd he1x ?_⟩
          conv=>whnf
          refine ⟨_,hb3,?_⟩
          conv=>whnf
          refine ⟨trivial,?_⟩
        rotate_right
        focus
         conv=>whnf
         refine ⟨_,hb3,?_⟩
         conv=>whnf
         refine ⟨?_,?_⟩;rotate_left
         focus
          conv=>whnf
          refine ⟨by kernel_rfl,?_⟩
          conv=>whnf
          refine ⟨he1a,he1b,Yd he1x ?_⟩
          conv=>whnf
          refine ⟨trivial,?_⟩
         rotate_right
         focus
          conv=>whnf
          refine ⟨by kernel_rfl,?_⟩
          conv=>whnf
          refine ⟨he1a,he1b,Yd he1x ?_⟩
          conv=>whnf
          refine ⟨trivial,?_⟩
       rotate_right
       focus
        conv=>whnf
        refine ⟨by kernel_rfl,?_⟩
        conv=>whnf
        refine ⟨he1a,he1b,Yd he1x ?_⟩
        conv=>whnf
        refine ⟨?_,?_⟩;rotate_left
        focus
         conv=>whnf
         refine ⟨_,hb3,?_⟩
         conv=>whnf
         refine ⟨trivial,?_⟩
        rotate_right
        focus
         conv=>whnf
         refine ⟨_,hb3,?_⟩
         conv=>whnf
         refine ⟨trivial,?_⟩
     rotate_right
     focus
      conv=>whnf
      refine ⟨by kernel_rfl,?_⟩
      conv=>whnf
      refine ⟨he1a,he1b,Yd he1x ?_⟩
      conv=>whnf
      refine ⟨?_,?_⟩;rotate_left
      focus
       conv=>whnf
       refine ⟨_,hb2,?_⟩
       conv=>whnf
       refine ⟨_,hb3,?_⟩
       conv=>whnf
       refine ⟨trivial,?_⟩
      rotate_right
      focus
       conv=>whnf
       refine ⟨_,hb2,?_⟩
       conv=>whnf
       refine ⟨?_,?_⟩;rotate_left
       focus
        conv=>whnf
        refine ⟨_,hb3,?_⟩
        conv=>whnf
        refine ⟨trivial,?_⟩
       rotate_right
       focus
        conv=>whnf
        refine ⟨_,hb3,?_⟩
        conv=>whnf
        refine ⟨trivial,?_⟩
  rotate_right
  focus
   conv=>whnf
   refine ⟨?_,?_⟩;rotate_left
   focus
    conv=>whnf
    refine ⟨_,hb0,?_⟩
    conv=>whnf
    refine ⟨he1a,he1b,Yd he1x ?_⟩
    conv=>whnf
    refine ⟨?_,?_⟩;rotate_left
    focus
     conv=>whnf
     refine ⟨_,hb2,?_⟩
     conv=>whnf
     refine ⟨?_,?_⟩;rotate_left
     focus
      conv=>whnf
      refine ⟨_,hb3,?_⟩
      conv=>whnf
      refine ⟨by kernel_rfl,?_⟩
      conv=>whnf
      refine ⟨he1a,he1b,Yd he1x ?_⟩
      conv=>whnf
      refine ⟨trivial,?_⟩
     rotate_right
     focus
      conv=>whnf
      refine ⟨by kernel_rfl,?_⟩
      conv=>whnf
      refine ⟨he1a,he1b,Yd he1x ?_⟩
      conv=>whnf
      refine ⟨_,hb3,?_⟩
      conv=>whnf
      refine ⟨trivial,?_⟩
    rotate_right
    focus
     conv=>whnf
     refine ⟨by kernel_rfl,?_⟩
     conv=>whnf
     refine ⟨he1a,he1b,Yd he1x ?_⟩
     conv=>whnf
     refine ⟨_,hb2,?_⟩
     conv=>whnf
     refine ⟨_,hb3,?_⟩
     conv=>whnf
     refine ⟨trivial,?_⟩
   rotate_right
   focus
    conv=>whnf
    refine ⟨_,hb0,?_⟩
    conv=>whnf
    refine ⟨he1a,he1b,Yd he1x ?_⟩
    conv=>whnf
    refine ⟨?_,?_⟩;rotate_left
    focus
     conv=>whnf
     refine ⟨?_,?_⟩;rotate_left
     focus
      conv=>whnf
      refine ⟨?_,?_⟩;rotate_left
      focus
       conv=>whnf
       refine ⟨_,hb2,?_⟩
       conv=>whnf
       refine ⟨?_,?_⟩;rotate_left
       focus
        conv=>whnf
        refine ⟨_,hb3,?_⟩
        conv=>whnf
        refine ⟨by kernel_rfl,?_⟩
        conv=>whnf
        refine ⟨he1a,he1b,Yd he1x ?_⟩
        conv=>whnf
        refine ⟨trivial,?_⟩
       rotate_right
       focus
        conv=>whnf
        refine ⟨by kernel_rfl,?_⟩
        conv=>whnf
        refine ⟨he1a,he1b,Yd he1x ?_⟩
        conv=>whnf
        refine ⟨_,hb3,?_⟩
        conv=>whnf
        refine ⟨trivial,?_⟩
      rotate_right
      focus
       conv=>whnf
       refine ⟨by kernel_rfl,?_⟩
       conv=>whnf
       refine ⟨he1a,he1b,Yd he1x ?_⟩
       conv=>whnf
       refine ⟨_,hb2,?_⟩
       conv=>whnf
       refine ⟨_,hb3,?_⟩
       conv=>whnf
       refine ⟨trivial,?_⟩
     rotate_right
     focus
      conv=>whnf
      refine ⟨_,hb2,?_⟩
      conv=>whnf
      refine ⟨?_,?_⟩;rotate_left
      focus
       conv=>whnf
       refine ⟨?_,?_⟩;rotate_left
       focus
        conv=>whnf
        refine ⟨?_,?_⟩;rotate_left
        focus
         conv=>whnf
         refine ⟨_,hb3,?_⟩
         conv=>whnf
         refine ⟨by kernel_rfl,?_⟩
         conv=>whnf
         refine ⟨he1a,he1b,Yd he1x ?_⟩
         conv=>whnf
         refine ⟨trivial,?_⟩
        rotate_right
        focus
         conv=>whnf
         refine ⟨by kernel_rfl,?_⟩
         conv=>whnf
         refine ⟨he1a,he1b,Yd he1x ?_⟩
         conv=>whnf
         refine ⟨_,hb3,?_⟩
         conv=>whnf
         refine ⟨trivial,?_⟩
       rotate_right
       focus
        conv=>whnf
        refine ⟨_,hb3,?_⟩
        conv=>whnf
        refine ⟨?_,?_⟩;rotate_left
        focus
         conv=>whnf
         refine ⟨by kernel_rfl,?_⟩
         conv=>whnf
         refine ⟨he1a,he1b,Yd he1x ?_⟩
         conv=>whnf
         refine ⟨trivial,?_⟩
        rotate_right
        focus
         conv=>whnf
         refine ⟨by kernel_rfl,?_⟩
         conv=>whnf
         refine ⟨he1a,he1b,Yd he1x ?_⟩
         conv=>whnf
         refine ⟨trivial,?_⟩
      rotate_right
      focus
       conv=>whnf
       refine ⟨by kernel_rfl,?_⟩
       conv=>whnf
       refine ⟨he1a,he1b,Yd he1x ?_⟩
       conv=>whnf
       refine ⟨?_,?_⟩;rotate_left
       focus
        conv=>whnf
        refine ⟨_,hb3,?_⟩
        conv=>whnf
        refine ⟨trivial,?_⟩
       rotate_right
       focus
        conv=>whnf
        refine ⟨_,hb3,?_⟩
        conv=>whnf
        refine ⟨trivial,?_⟩
    rotate_right
    focus
     conv=>whnf
     refine ⟨by kernel_rfl,?_⟩
     conv=>whnf
     refine ⟨he1a,he1b,Yd he1x ?_⟩
     conv=>whnf
     refine ⟨?_,?_⟩;rotate_left
     focus
      conv=>whnf
      refine ⟨_,hb2,?_⟩
      conv=>whnf
      refine ⟨_,hb3,?_⟩
      conv=>whnf
      refine ⟨trivial,?_⟩
     rotate_right
     focus
      conv=>whnf
      refine ⟨_,hb2,?_⟩
      conv=>whnf
      refine ⟨?_,?_⟩;rotate_left
      focus
       conv=>whnf
       refine ⟨_,hb3,?_⟩
       conv=>whnf
       refine ⟨trivial,?_⟩
      rotate_right
      focus
       conv=>whnf
       refine ⟨_,hb3,?_⟩
       conv=>whnf
       refine ⟨trivial,?_⟩
  all_goals
   conv=>whnf
   refine ⟨by kernel_rfl,?_⟩
   conv=>whnf
   refine ⟨by kernel_rfl,?_⟩
   conv=>whnf
   refine ⟨by kernel_rfl,?_⟩
   conv=>whnf
   refine ZaJ h (λl01Next3 hb4 h=>?_)
   conv=>whnf
   refine ⟨trivial,?_⟩
   conv=>whnf
   refine ⟨by kernel_rfl,?_⟩
   conv=>whnf
   refine ⟨by kernel_rfl,?_⟩
   conv=>whnf
   refine ⟨by kernel_rfl,?_⟩
   conv=>whnf
   refine ZaJ h (λl01Next4 hb5 h=>?_)
   conv=>whnf
   refine ⟨trivial,?_⟩
   conv=>whnf
   refine ZaJ h (λl01Next5 hb6 h=>?_)
   conv=>whnf
   refine ZlD h (λh=>?_) (λh=>?_)
   conv=>whnf
   cases h;exact hK
   conv=>whnf
   refine ZlD h (λh=>?_) (λh=>?_)
   conv=>whnf
   refine ZaJ h (λl01Next6 hb7 h=>?_)
   conv=>whnf
   refine vAt h (λx1 he8a he8b he8x h=>?_)
   conv=>whnf
   refine ⟨by kernel_rfl,?_⟩
   conv=>whnf
   refine ⟨he8a,he8b,Yd he8x ?_⟩
   conv=>whnf
   cases h;exact hK
   conv=>whnf
   refine ZlD h (λh=>?_) (λh=>?_)
   conv=>whnf
   refine ZaJ h (λl01Next6 hb9 h=>?_)
   conv=>whnf
   cases h;exact hK
   conv=>whnf
   refine ZlD h (λh=>?_) (λh=>?_)
   conv=>whnf
   cases h;exact hK
   conv=>whnf
   cases h;exact hK
end Go.Proofs.YtgjjlgodlhhdoaaGreatDoor
