/-
  The functions keep their contracts, if what they call does. Printed by program.
-/
import Derived.Test.YtgjjlgodlhhdoaaGreatDoorM
import Derived.KernelRfl
namespace Go.Proofs.YtgjjlgodlhhdoaaGreatDoor
open Go Go.Sx
set_option maxRecDepth 100000
set_option maxHeartbeats 6400000
set_option linter.unusedVariables false
set_option linter.unusedSimpArgs false
structure Ws2:Prop where
 w143:Sq 238 ZyE->Sq 162 c143
 w113:Sq 356 Zym
 w107:Sq 392 c107
 w120:Sq 355 c119->Sq 358 Zyq
 w146:Sq 239 c146
 w145:Sq 61 Zvr->Sq 233 c145
 w141:Sq 197 c87->Sq 198 ZyD->Sq 113 c141
 w132:Sq 222 Zyy
 w156:Sq 216 ZyJ->Sq 131 c156
 w92:Sq 223 c86->Sq 353 c88->Sq 275 c91->Sq 320 c92
 w95:Sq 223 c86->Sq 226 c95
 w168:Sq 260 c168
 w100:Sq 163 c94->Sq 223 c86->Sq 138 c98->Sq 139 c99->Sq 395 Zyd
 w151:Sq 60 Zxz
 w150:Sq 61 Zvr->Sq 162 c143->Sq 163 c94->Sq 164 Zxy->Sq 165 ZyG->Sq 77 ZyH
 w163:Sq 166 c162->Sq 131 c156->Sq 167 ZxA->Sq 78 ZyL
 w164:Sq 116 c164
 w181:Sq 211 ZwF
 w152:Sq 60 Zxz->Sq 48 c152
 w195:Sq 211 ZwF->Sq 261 c182->Sq 262 ZxC->Sq 266 c194->Sq 212 Zy3
 w196:Sq 210 Zy2->Sq 211 ZwF->Sq 212 Zy3->Sq 121 c196
 w194:Sq 315 c193->Sq 263 Zwn->Sq 266 c194
 w0:Sq 8 c0
 w115:Sq 378 Zyn->Sq 355 Zyo
 w104:Sq 388 Zyg->Sq 394 Zyh
 w129:Sq 277 Zyw->Sq 228 Zyx
 w96:Sq 226 c95->Sq 228 c96
 w37:Sq 106 c35->Sq 103 c14->Sq 149 c36->Sq 70 c37
 w53:Sq 172 c23->Sq 213 c22->Sq 123 c53
 w35:Sq 186 c32->Sq 187 c33->Sq 188 c34->Sq 106 c35
 w36:Sq 172 c23->Sq 149 c36
 w81:Sq 71 c61->Sq 51 c42->Sq 52 c45->Sq 72 c80->Sq 23 c81
 w16:Sq 97 c16
 w10:Sq 251 c8->Sq 252 c9->Sq 182 c10
 w8:Sq 37 c2->Sq 300 c3->Sq 301 c7->Sq 251 c8
 w12:Sq 37 c2->Sq 101 c11->Sq 183 c12
 w18:Sq 182 c10->Sq 183 c12->Sq 103 c14->Sq 102 c17->Sq 96 c18
 w71:Sq 318 c70->Sq 271 c67->Sq 269 c71
 w43:Sq 70 c37->Sq 37 c2->Sq 51 c42->Sq 136 c43
 w44:Sq 127 c44
 w82:Sq 23 c81->Sq 37 c2->Sq 63 c82
 w58:Sq 53 c46->Sq 172 c23->Sq 148 c56->Sq 173 c57->Sq 83 c58
 w77:Sq 214 c73->Sq 215 c76->Sq 128 c77
set_option maxHeartbeats 100000000 in
theorem ws2:Ws2:=by
 refine ⟨(λq0=>Zg Zu (Zb q0 Zk) mixed {loops:=[(0,[.reg 7 (.own (.ol 202 (.flat (Jp)))),.reg 21 (.dat Iq)]),(2,[.reg 7 (.own (.ol 202 (.flat (Jp)))),.reg 29 (.dat Iq)])]} Tryz.func162 (hvc:=?_)),
 (Zg Zu Zk mixed {} Tryz.func356 (hvc:=?_)),
 (Zg Zu Zk mixed {} Tryz.func392 (hvc:=?_)),
 (λq0=>Zg Zu (Zb q0 Zk) mixed {} Tryz.func358 (hvc:=?_)),
 (Zg Zu Zk mixed {draws:=[(3,[0,1,0,4,0,16,60,124,252,511,1023,2047,0,4096,16383,32767,65535,131071],.u 0 18 .done)]} Tryz.func239 (hvc:=?_)),
 (λq0=>Zg Zu (Zb q0 Zk) mixed {loops:=[(0,[.reg 5 (.own (.ol 2 (.flat Iq))),.reg 11 (.dat Iq)])]} Tryz.func233 (hvc:=?_)),
 (λq1 q0=>Zg Zu (Zb q1 (Zb q0 Zk)) mixed {} Tryz.func113 (hvc:=?_)),
 (Zg Zu Zk mixed {} Tryz.func222 (hvc:=?_)),
 (λq0=>Zg Zu (Zb q0 Zk) mixed {} Tryz.func131 (hvc:=?_)),
 (λq2 q0 q1=>Zg Zu (Zb q2 (Zb q0 (Zb q1 Zk))) mixed {loops:=[(0,[.reg 3 (.own (.ol 9 (.flat (.str)))),.reg 8 (.dat Iq)])]} Tryz.func320 (hvc:=?_)),
 (λq0=>Zg Zu (Zb q0 Zk) mixed {} Tryz.func226 (hvc:=?_)),
 (Zg Zu Zk mixed {} Tryz.func260 (hvc:=?_)),
 (λq0 q3 q2 q1=>Zg Zu (Zb q0 (Zb q3 (Zb q2 (Zb q1 Zk)))) mixed {} Tryz.func395 (hvc:=?_)),
 (Zg Zu Zk mixed {} Tryz.func60 (hvc:=?_)),
 (λq3 q1 q4 q2 q0=>Zg ZcW (Zb q3 (Zb q1 (Zb q4 (Zb q2 (Zb q0 Zk))))) mixed {loops:=[(0,[.reg 4 (.dat Iq),.reg 25 (.dat Iq),.cello 1020 6 (.ol 202 (.flat (Jp)))]),(2,[.reg 60 (.dat Iq),.ent 4 (nat_lit 2) (.flat Ztk.ety),.ent 5 (nat_lit 38) (Dp.ol (2:Go.TypeId) (Dp.flat (Ty.int IntKind.i64)))]),(4,[.reg 88 (.dat Iq),.cello 1020 7 (.ol 2 (.flat Iq)),.cello 1020 8 (.ol 38 (.ol 2 (.flat Iq))),.cello 1020 6 (.ol (nat_lit 202) (.flat Jp)),.ent 5 (nat_lit 38) (Dp.ol (2:Go.TypeId) (Dp.flat (Ty.int IntKind.i64)))]),(6,[.reg 122 (.dat Iq),.cello 1020 6 (.ol (nat_lit 202) (.flat Jp))]),(8,[.reg 127 (.dat Iq),.cello 1020 6 (.ol (nat_lit 202) (.flat Jp))])],draws:=[(1,[0,0,2,6,15,31,63],.o [0,1,2] (.alt 3 (.op 4 (.alt 5 (.op 6 .done) .done)) .done)),(6,[0,0,2,6,14,0,0,0,224,510,1023,2047,4095],.u 0 8 (.a [8,9] (.o [10,11] (.alt 12 .done .done)))),(16,[0,0,2,0,0,16,56,120,0,256,1016,2047,4095],.o [0,1] (.u 3 6 (.ld 2 (.a [9,10] (.op 11 (.alt 12 .done .done)))))),(21,[0,0,2,6,14,0,0,96,224,480,992,2046,4095,8191,16383],.u 0 7 (.alt 7 (.o [8,9] (.a [10,11] (.o [12,13] (.alt 14 .done .done)))) .done)),(22,[0,0,2,6,14,0,0,96,224,510,1023,2047,4095],.u 0 7 (.a [7,8,9] (.o [10,11] (.alt 12 .done .done)))),(29,[0,0,2,6,14,0,0,96,224,480,0,2016,0,4096,0,28672,0,131040,262112,524286,1048575,2097151,4194303],.u 0 18 (.a [18,19] (.o [20,21] (.alt 22 .done .done))))]} Tryz.func77 (hvc:=?_)),
 (λq0 q2 q1=>Zg Zu (Zb q0 (Zb q2 (Zb q1 Zk))) mixed {loops:=[(0,[.reg 9 (.dat Iq)])],draws:=[(4,[0,0,2,7,15,31,63,127,255,511,1023,2047,4095,8191,16383,32767,65535,131071,262143,524287,1048575,2097151,2097151,6291455,16777215,33554431,67108863,2097151,136314879,536870911,1073741823,2147483647],.o [0,1,2] (.alt 3 (.u 4 4 (.alt 8 (.u 9 5 (.alt 14 (.u 15 17 .done) .done)) .done)) .done))]} Tryz.func78 (hvc:=?_)),
 (Zg Zu Zk mixed {loops:=[(0,[.reg 23 (.dat Iq),.ent 0 (nat_lit 4) (.flat ZsZ.ety)]),(2,[.reg 35 (.dat Iq),.ent 0 (nat_lit 4) (.flat ZsZ.ety)])]} Tryz.func116 (hvc:=?_)),
 (Zg Zu Zk mixed {draws:=[(1,[0,1,3,7,0,16,48,127,255,511,1023],.u 0 11 .done)]} Tryz.func211 (hvc:=?_)),
 (λq0=>Zg Zu (Zb q0 Zk) mixed {} Tryz.func48 (hvc:=?_)),
 (λq1 q2 q0 q3=>Zg Zu (Zb q1 (Zb q2 (Zb q0 (Zb q3 Zk)))) mixed {draws:=[(4,[0,0,3,7,0,16,48,127,255,0,0,1024,3072,7168,0,31744,64512,0,262143,524287,1048575],.o [0,1,4,5,6] (.u 9 9 (.alt 2 (.o [3,7,8] (.alt 18 (.o [19,20] .done) .done)) .done))),(5,[0,0,2,6,14,0,62,126,0,256,1022,2046,0,8191,16383,32767],.u 0 13 (.alt 13 (.o [14,15] .done) .done))]} Tryz.func212 (hvc:=?_)),
 (λq0 q1 q2=>Zg Zu (Zb q0 (Zb q1 (Zb q2 Zk))) mixed {draws:=[(1,[0,1,0,4,3,31],.u 0 6 .done),(2,[0,0,0,0,15,0,0,0,0,511,1023,0,0,0,0,31743,0,0,0,0,1047551,2096127,4194303,0,16777215],.u 0 4 (.u 5 4 (.u 11 4 (.u 16 4 (.alt 4 (.alt 9 (.op 10 (.alt 15 (.alt 20 (.o [21,22] (.a [23,24] .done)) (.a [23,20] (.o [21,22] (.alt 24 .done .done)))) (.a [23,15,20] (.o [21,22] (.alt 24 .done .done))))) (.a [23,9] (.op 10 (.a [15,20] (.o [21,22] (.alt 24 .done .done)))))) (.a [23,4,9] (.op 10 (.a [15,20] (.o [21,22] (.alt 24 .done .done)))))))))),(5,[0,1,3,7,0,0,48,127,255,511],.u 0 6 (.alt 6 (.o [7,8,9] .done) .done)),(8,[0,0,1,7],.op 0 (.alt 1 (.a [2,3] .done) (.a [2,1,3] .done)))]} Tryz.func121 (hvc:=?_)),
 (λq1 q0=>Zg Zu (Zb q1 (Zb q0 Zk)) mixed {} Tryz.func266 (hvc:=?_)),
 (Zg Zu Zk mixed {} Tryz.func8 (hvc:=?_)),
 (λq0=>Zg Zu (Zb q0 Zk) mixed {} Tryz.func355 (hvc:=?_)),
 (λq0=>Zg Zu (Zb q0 Zk) mixed {loops:=[(0,[.reg 8 (.dat Iq)])]} Tryz.func394 (hvc:=?_)),
 (λq0=>Zg Zu (Zb q0 Zk) mixed {loops:=[(0,[.reg 8 (.dat Iq)])]} Tryz.func228 (hvc:=?_)),
 (λq0=>Zg Zu (Zb q0 Zk) mixed {loops:=[(0,[.reg 8 (.dat Iq)])]} Tryz.func228 (hvc:=?_)),
 (λq0 q1 q2=>Zg Zu (Zb q0 (Zb q1 (Zb q2 Zk))) mixed {loops:=[(0,[.reg 3 (.dat Iq)])],draws:=[(6,[0,1,0,7,15,0,32,0,224,480,1023,2047],.u 0 8 (.alt 8 (.op 9 (.alt 10 (.op 11 .done) .done)) .done))]} Tryz.func70 (hvc:=?_)),
 (λq1 q0=>Zg Zu (Zb q1 (Zb q0 Zk)) mixed {loops:=[(0,[.reg 4 (.dat Iq)])]} Tryz.func123 (hvc:=?_)),
 (λq0 q1 q2=>Zg Zu (Zb q0 (Zb q1 (Zb q2 Zk))) mixed {loops:=[(0,[.reg 5 (.own (.ol 9 (.flat (.str)))),.reg 6 (.dat Iq)]),(2,[.reg 7 (.own (.ol 9 (.flat (.str)))),.reg 8 (.dat Iq)]),(4,[.reg 10 (.dat Iq),.ent 6 (nat_lit 2) (.flat Ztk.ety)]),(6,[.reg 12 (.dat Iq),.ent 6 (nat_lit 2) (.flat Ztk.ety)]),(8,[.reg 13 (.dat Iq)])]} Tryz.func106 (hvc:=?_)),
 (λq0=>Zg Zu (Zb q0 Zk) mixed {loops:=[(0,[.reg 6 (.dat Iq)]),(2,[.reg 7 (.dat Iq)])]} Tryz.func149 (hvc:=?_)),
 (λq1 q0 q2 q3=>Zg Zu (Zb q1 (Zb q0 (Zb q2 (Zb q3 Zk)))) mixed {draws:=[(5,[0,0,0,0,0,24,0,0,255,511,1023,1023,0,6143,16383],.u 0 5 (.o [6,7] (.alt 5 (.alt 8 (.o [9,10,11] (.a [12,13] (.op 14 .done))) (.a [12,8] (.o [9,10,11] (.alt 13 (.op 14 .done) .done)))) (.a [12,5,8] (.o [9,10,11] (.alt 13 (.op 14 .done) .done))))))]} Tryz.func23 (hvc:=?_)),
 (Zg Zu Zk mixed {} Tryz.func97 (hvc:=?_)),
 (λq1 q0=>Zg ZcW (Zb q1 (Zb q0 Zk)) mixed {} Tryz.func182 (hvc:=?_)),
 (λq2 q1 q0=>Zg ZcW (Zb q2 (Zb q1 (Zb q0 Zk))) mixed {loops:=[(0,[.reg 9 (.own (.ol 329 (.flat (Zm4)))),.reg 10 (.dat Iq),.cell 1000 0 (.sl (.int .u8)),.cell 1000 1 Iq,.cell 1000 2 Iq]),(2,[.reg 12 (.own (.ol 213 (ZwI))),.reg 13 (.dat Iq),.cell 1000 0 (.sl (.int .u8)),.cell 1000 1 Iq,.cell 1000 2 Iq])],draws:=[(7,[0,0,0,4,14,30,0,64,192,510,1022,2047,4095],.u 0 5 (.op 6 (.alt 5 (.alt 7 (.o [8,9] (.a [10,11] (.op 12 .done))) .done) (.alt 7 (.op 8 (.alt 5 (.op 9 (.a [10,11] (.op 12 .done))) .done)) .done))))]} Tryz.func251 (hvc:=?_)),
 (λq1 q0=>Zg ZcW (Zb q1 (Zb q0 Zk)) mixed {loops:=[(0,[.reg 9 (.own (.ol 171 (ZhG))),.reg 10 (.own (.ol 9 (.flat (.str)))),.reg 11 (.dat Iq),.cell 1000 0 (.sl (.int .u8)),.cell 1000 1 Iq,.cell 1000 2 Iq]),(2,[.reg 14 (.dat Iq),.cell 1000 0 (.sl (.int .u8)),.cell 1000 1 Iq,.cell 1000 2 Iq,.cello 1013 2 (.ol 2 (.flat Iq))]),(4,[.reg 16 (.dat Iq),.cell 1000 0 (.sl (.int .u8)),.cell 1000 1 Iq,.cell 1000 2 Iq,.ent 9 (nat_lit 171) (Dp.pair (Dp.flat Ty.str) (Dp.pair (Dp.flat (Ty.int IntKind.i64)) (Dp.pair (Dp.ol (2:Go.TypeId) (Dp.flat (Ty.int IntKind.i64))) (Dp.flat Ty.unit))))])],draws:=[(27,[0,0,3,7,15,0,0,64,192,480,992,2047,4095],.u 0 4 (.u 5 4 (.alt 4 (.alt 9 (.o [10,11] (.alt 12 .done .done)) .done) (.alt 9 (.op 10 (.alt 4 (.op 11 (.alt 12 .done .done)) .done)) .done))))]} Tryz.func183 (hvc:=?_)),
 (λq2 q3 q1 q0=>Zg ZcW (Zb q2 (Zb q3 (Zb q1 (Zb q0 Zk)))) mixed {loops:=[(0,[.reg 9 (.own (.ol 40 (Zos))),.reg 10 (.dat Iq),.cell 0 0 (.sl (.int .u8)),.cell 0 1 Iq,.cell 0 2 Iq])]} Tryz.func96 (hvc:=?_)),
 (λq0 q1=>Zg Zu (Zb q0 (Zb q1 Zk)) mixed {loops:=[(0,[.reg 8 (.own (.ol 2 (.flat Iq))),.reg 9 (.dat Iq)])]} Tryz.func269 (hvc:=?_)),
 (λq1 q2 q0=>Zg Zu (Zb q1 (Zb q2 (Zb q0 Zk))) mixed {loops:=[(0,[.reg 5 (.own (.ol 2 (.flat Iq))),.reg 8 (.dat Iq),.cell 0 0 (.sl (.int .u8)),.cell 0 1 Iq,.cell 0 2 Iq])]} Tryz.func136 (hvc:=?_)),
 (Zg Zu Zk mixed {loops:=[(0,[.reg 5 (.dat Iq)])]} Tryz.func127 (hvc:=?_)),
 (λq0 q1=>Zg Zu (Zb q0 (Zb q1 Zk)) mixed {draws:=[(9,[0,1,0,0,8,0,56,120,248,511,1023],.u 0 10 (.alt 10 .done .done)),(11,[0,1,0,0,8,0,56,120,248,504,1023,2047,4095],.u 0 12 (.alt 12 .done .done)),(13,[0,1,0,0,8,0,56,120,248,504,1023,2047,4095],.u 0 12 (.alt 12 .done .done))]} Tryz.func63 (hvc:=?_)),
 (λq0 q3 q2 q1=>Zg Zu (Zb q0 (Zb q3 (Zb q2 (Zb q1 Zk)))) mixed {loops:=[(0,[.reg 6 (.dat Iq)])],draws:=[(5,[0,0,3,7,15,0,32,127,255,511,1023,2047,4095,8191,8191,24575,65535,131071,262143,8191,8191,1581055,3678207,7872511,16777215,33554431,67108863,134217727,268435455,268435455,1073741823,2147483647,4294967295,8589934591,17179869183,34359738367,68719476735,137438953471,137438953471,549755813887,1099511627775,2199023255551,4398046511103,8796093022207,17592186044415],.u 0 7 (.alt 7 (.u 8 25 (.alt 33 (.u 34 8 (.alt 42 (.o [43,44] .done) .done)) .done)) .done))]} Tryz.func83 (hvc:=?_)),
 (λq0 q1=>Zg Zu (Zb q0 (Zb q1 Zk)) mixed {draws:=[(1,[0,0,0,0,8,31,0,0,0,0,512,2047,4095,0,16383],.u 0 5 (.u 6 5 (.alt 5 (.alt 11 (.op 12 (.a [13,14] .done)) (.a [13,11] (.op 12 (.alt 14 .done .done)))) (.a [13,5,11] (.op 12 (.alt 14 .done .done)))))),(2,[0,0,0,4,15,0,0,0,128,511,1023,0,4095],.u 0 4 (.u 5 4 (.alt 4 (.alt 9 (.op 10 (.a [11,12] .done)) (.a [11,9] (.op 10 (.alt 12 .done .done)))) (.a [11,4,9] (.op 10 (.alt 12 .done .done)))))),(3,[0,1,0,0,0,0,32,124,255,511,1023],.u 0 7 (.alt 7 (.o [8,9] (.alt 10 .done .done)) .done)),(4,[0,1,0,0,0,0,32,124,255,511,1023],.u 0 7 (.alt 7 (.o [8,9] (.alt 10 .done .done)) .done)),(5,[0,1,0,0,0,16,60,127,255,511],.u 0 6 (.alt 6 (.o [7,8] (.alt 9 .done .done)) .done)),(6,[0,1,0,0,0,16,60,127,255,511],.u 0 6 (.alt 6 (.o [7,8] (.alt 9 .done .done)) .done)),(7,[0,0,1,7],.op 0 (.alt 1 (.a [2,3] .done) (.a [2,1,3] .done)))]} Tryz.func128 (hvc:=?_))⟩
 all_goals
  intro a;repeat rcases a with ⟨_,a⟩
  rintro K ⟨r,h,hK⟩;repeat'
    conv=>whnf
    first
    | with_reducible refine ZrN ?_
    | with_reducible refine ZeX (by assumption) (by assumption) (by assumption) ?_
    | with_reducible refine Yd (by assumption) ?_
    | with_reducible refine ZeZ (by assumption) ?_
    | (with_reducible refine shD ?_);first | refine ZlD h (λh=>?_) (λh=>?_) | refine Zq7 h (λh=>?_) (λh=>?_)
    | (with_reducible refine ZsO ?_);first | refine Zwh ?_ | refine Zo7 ?_
    | (with_reducible refine Zw8 ?_);first | refine Zs5 h (λh=>?_) (λh=>?_) | refine Zs6 h (λh=>?_) (λh=>?_)
    | (with_reducible refine ZsN ?_);(refine ⟨λhd=>?_,?_⟩)<;>try subst hd
    | (with_reducible refine Zxa ?_);first | with_reducible refine ZaJ h (λx hb h=>?_) | refine ZeZ (by assumption) ?_ | with_reducible refine pG h (λhp h=>?_) | with_reducible refine pA h (λx ha hb hx h=>?_) | with_reducible refine pB h (λx hb h=>?_) | refine ZaJ h (λx hb h=>?_)
    | (with_reducible refine Zw7 ?_);first | with_reducible refine vAt h (λx ha hb hx h=>?_) | refine ZeX (by assumption) (by assumption) (by assumption) ?_ | with_reducible refine pG h (λhp h=>?_) | with_reducible refine pA h (λx ha hb hx h=>?_) | with_reducible refine pB h (λx hb h=>?_) | refine vAt h (λx ha hb hx h=>?_)
    | (with_reducible refine ZsM ?_);first | with_reducible refine ZlC h (λx hb h=>?_) | refine Yd (by assumption) ?_ | with_reducible refine pG h (λhp h=>?_) | with_reducible refine pA h (λx ha hb hx h=>?_) | with_reducible refine pB h (λx hb h=>?_) | refine ZlC h (λx hb h=>?_)
    | with_reducible refine Zw9 ?_
    | (with_reducible refine ZnZ ?_);refine Zoh h hK ?_;clear h hK;intro I μ v r h hK;(repeat rcases v with ⟨_,v⟩);(try dsimp only at h)
    | with_reducible refine ⟨by assumption,?_⟩
    | with_reducible refine orL ?_
    | with_reducible refine .inr ?_
    | (with_reducible refine ZsP ?_);first | refine ⟨?_,True.intro⟩ | refine ⟨?_,?_⟩
    | refine ⟨by kernel_rfl,?_⟩
    | refine ⟨by decide,?_⟩
    | with_reducible refine Zs7 h (λhp h=>?_)
    | intro fp
    | exact trivial
    | with_reducible exact ZrG h
    | (refine pS h (λe=>?_));subst e;(repeat (first | exact hK | exact ⟨⟨rfl,rfl⟩,hK.1 _ rfl⟩ | (refine pR hK (λe hK=>?_));subst e));done
    | refine Zs7 h (λhp h=>?_)
    | refine ⟨by assumption,?_⟩
    | with_reducible refine pG h (λhp h=>?_) | with_reducible refine pA h (λx ha hb hx h=>?_) | with_reducible refine pB h (λx hb h=>?_)
    | refine pG h (λhp h=>?_)
    | fail
theorem w_laws_FnWrongNodes (q6:Sq 8 c0) (q1:Sq 13 c85) (q2:Sq 14 Zy5) (q3:Sq 15 Zy8) (q0:Sq 16 Zza) (q5:Sq 17 Zzb) (q4:Sq 18 c210):Sq 4 Zeg:=by
 refine Zg Zu (Zb q6 (Zb q1 (Zb q2 (Zb q3 (Zb q0 (Zb q5 (Zb q4 Zk))))))) mixed {draws:=[(11,[0,1,3,7,15,31,63,127,255,63,63,1599,4095,8191,16383,32767,65535,131071,32767,294911,1048575,2097151,4194303,8388607],.u 0 11 (.alt 11 (.u 12 7 (.alt 19 (.u 20 4 .done) .done)) .done))]} (fn:=Tryz.f4) Tryz.func4 (by kernel_rfl) (by kernel_rfl) ?_;rintro ⟨a0,⟨⟩⟩ K ⟨r,h,hK⟩
 change Jh a0=some r at h
 unfold Jh at h
 conv=>whnf
 refine ZaJ h (λbig0 hb0 h=>?_)
 conv=>whnf
 refine Zs5 h (λh=>?_) (λh=>?_)
 conv=>whnf
 cases h;exact hK
 conv=>whnf
 refine ZaJ h (λDrawWrongNodes0 hb1 h=>?_)
 conv=>whnf
 refine ZaJ h (λWrongNodes0 hb2 h=>?_)
 conv=>whnf
 refine ZaJ h (λWrongNodes1 hb3 h=>?_)
 conv=>whnf
 refine Zo7 ?_;refine ZlD h (λh=>?_) (λh=>?_)
 conv=>whnf
 refine Zo7 ?_;refine ZlD h (λh=>?_) (λh=>?_)
 conv=>whnf
 refine ZaJ h (λPropagateTiming0 hb4 h=>?_)
 conv=>whnf
 refine ⟨by kernel_rfl,?_⟩
 conv=>whnf
 refine Zq7 h (λh=>?_) (λh=>?_)
 conv=>whnf
 refine ⟨trivial,?_⟩
 conv=>whnf
 cases h;exact hK
 conv=>whnf
 refine ZlD h (λh=>?_) (λh=>?_)
 conv=>whnf
 refine ZaJ h (λw5Timing0 hb5 h=>?_)
 conv=>whnf
 refine Zs5 h (λh=>?_) (λh=>?_)
 conv=>whnf
 refine ZaJ h (λNodeCount0 hb6 h=>?_)
 conv=>whnf
 refine ⟨trivial,?_⟩
 conv=>whnf
 cases h;exact hK
 conv=>whnf
 refine ⟨trivial,?_⟩
 conv=>whnf
 cases h;exact hK
 conv=>whnf
 refine ⟨trivial,?_⟩
 conv=>whnf
 cases h;exact hK
 conv=>whnf
 cases h;exact hK
 conv=>whnf
 cases h;exact hK
end Go.Proofs.YtgjjlgodlhhdoaaGreatDoor
