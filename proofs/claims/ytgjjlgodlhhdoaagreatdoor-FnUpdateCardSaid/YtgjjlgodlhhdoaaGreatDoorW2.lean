/-
  The functions keep their contracts, if what they call does. Printed by program.
-/
import Derived.Test.YtgjjlgodlhhdoaaGreatDoorM
import Derived.KernelRfl
namespace Go.Proofs.YtgjjlgodlhhdoaaGreatDoor
open Go Go.Sx
set_option maxRecDepth 100000
set_option maxHeartbeats 6400000
set_option linter.unusedVariables false
set_option linter.unusedSimpArgs false
structure Ws2:Prop where
 w192:Sq 364 Zy1->Sq 330 Zy2
 w191:Sq 364 Zy1
 w146:Sq 175 c143->Sq 61 ZyB->Sq 233 ZyF->Sq 239 c145->Sq 164 c146
 w106:Sq 392 Zyi
 w145:Sq 239 c145
 w138:Sq 132 ZyA->Sq 61 ZyB->Sq 133 ZyC->Sq 59 c138
 w121:Sq 197 c86->Sq 320 c91->Sq 321 Zyo->Sq 223 c85->Sq 322 Zyq->Sq 274 Zyr
 w131:Sq 222 c131
 w137:Sq 163 c93->Sq 223 c85->Sq 224 Zvr->Sq 138 c97->Sq 133 ZyC
 w208:Sq 47 c171->Sq 65 ZxB->Sq 66 c175->Sq 67 Zza->Sq 20 c208
 w90:Sq 197 c86->Sq 323 c89->Sq 275 c90
 w157:Sq 131 ZyJ->Sq 241 c156->Sq 167 c157
 w105:Sq 387 Zyh->Sq 375 c105
 w169:Sq 202 c168->Sq 205 ZyO
 w99:Sq 163 c93->Sq 223 c85->Sq 138 c97->Sq 139 c98->Sq 395 c99
 w87:Sq 353 c87
 w149:Sq 61 ZyB->Sq 162 ZyE->Sq 163 c93->Sq 164 c146->Sq 165 c148->Sq 77 ZyG
 w189:Sq 211 ZxC
 w217:Sq 48 Zxz->Sq 130 ZDZ
 w151:Sq 60 ZyH->Sq 48 Zxz
 w202:Sq 315 c201->Sq 263 c196->Sq 266 Zy7
 w173:Sq 140 c173
 w174:Sq 141 ZyQ
 w104:Sq 394 Zyg->Sq 387 Zyh
 w117:Sq 379 c116->Sq 378 c117
 w128:Sq 277 c127->Sq 228 Zyw
 w166:Sq 204 ZyN
 w60:Sq 150 c55->Sq 51 c42->Sq 53 c46->Sq 52 c45->Sq 229 c59->Sq 146 c60
 w67:Sq 271 c67
 w66:Sq 317 c66
 w30:Sq 305 c30
 w24:Sq 213 c22->Sq 172 c23->Sq 303 c24
 w41:Sq 98 c13->Sq 108 c41
 w34:Sq 213 c22->Sq 188 c34
 w19:Sq 37 c2->Sq 96 c18->Sq 97 c16->Sq 35 c19
 w46:Sq 98 c13->Sq 53 c46
 w42:Sq 99 c38->Sq 125 c40->Sq 108 c41->Sq 103 c14->Sq 126 c39->Sq 51 c42
 w39:Sq 126 c39
 w54:Sq 172 c23->Sq 145 c54
 w50:Sq 51 c42->Sq 52 c45->Sq 53 c46->Sq 225 c49->Sq 127 c44->Sq 137 c50
 w80:Sq 53 c46->Sq 151 c62->Sq 54 c79->Sq 148 c56->Sq 72 c80
 w209:Sq 148 c56->Sq 173 c57->Sq 124 Zzb
 w210:Sq 70 c37->Sq 123 c53->Sq 53 c46->Sq 124 Zzb->Sq 71 c61->Sq 50 c210
 w212:Sq 56 c212
set_option maxHeartbeats 100000000 in
theorem ws2:Ws2:=by
 refine ⟨(λq0=>Zg Zu (Zb q0 Zk) mixed {} Tryz.func330 (hvc:=?_)),
 (Zg Zu Zk mixed {} Tryz.func364 (hvc:=?_)),
 (λq0 q1 q2 q3=>Zg Zu (Zb q0 (Zb q1 (Zb q2 (Zb q3 Zk)))) mixed {loops:=[(0,[.reg 27 (.dat Iq),.ent 2 (nat_lit 2) (.flat (Ty.int IntKind.i64))]),(2,[.reg 10 (.dat Iq),.ent 2 (nat_lit 2) (.flat (Ty.int IntKind.i64))])],draws:=[(7,[0,0,2,0,14,30,63,127,0,256,0,1024,0,0,12288,28672,65280,131071,262143,524287],.u 0 16 (.alt 16 (.o [17,18] (.alt 19 .done .done)) .done)),(12,[0,0,2,0,14,30,63,127,0,0,768,1792,4095,8191,16383],.u 0 14 (.alt 14 .done .done))]} Tryz.func164 (hvc:=?_)),
 (Zg Zu Zk mixed {} Tryz.func392 (hvc:=?_)),
 (Zg Zu Zk mixed {draws:=[(3,[0,1,0,4,0,16,60,124,252,511,1023,2047,0,4096,16383,32767,65535,131071],.u 0 18 .done)]} Tryz.func239 (hvc:=?_)),
 (λq1 q0 q2=>Zg Zu (Zb q1 (Zb q0 (Zb q2 Zk))) mixed {loops:=[(0,[.reg 32 (.dat Iq),.ent 1 (nat_lit 2) (.flat Ztk.ety)]),(2,[.reg 50 (.dat Iq)])],draws:=[(13,[0,0,0,6,14,31,63],.u 0 5 (.alt 5 (.op 6 .done) .done))]} Tryz.func59 (hvc:=?_)),
 (λq3 q2 q1 q4 q0=>Zg Zu (Zb q3 (Zb q2 (Zb q1 (Zb q4 (Zb q0 Zk))))) mixed {} Tryz.func274 (hvc:=?_)),
 (Zg Zu Zk mixed {} Tryz.func222 (hvc:=?_)),
 (λq0 q3 q1 q2=>Zg Zu (Zb q0 (Zb q3 (Zb q1 (Zb q2 Zk)))) mixed {} Tryz.func133 (hvc:=?_)),
 (λq3 q0 q1 q2=>Zg Zu (Zb q3 (Zb q0 (Zb q1 (Zb q2 Zk)))) mixed {} Tryz.func20 (hvc:=?_)),
 (λq1 q0=>Zg Zu (Zb q1 (Zb q0 Zk)) mixed {loops:=[(0,[.reg 7 (.dat Iq)])]} Tryz.func275 (hvc:=?_)),
 (λq0 q1=>Zg Zu (Zb q0 (Zb q1 Zk)) mixed {} Tryz.func167 (hvc:=?_)),
 (λq0=>Zg Zu (Zb q0 Zk) mixed {} Tryz.func375 (hvc:=?_)),
 (λq0=>Zg Zu (Zb q0 Zk) mixed {} Tryz.func205 (hvc:=?_)),
 (λq0 q3 q2 q1=>Zg Zu (Zb q0 (Zb q3 (Zb q2 (Zb q1 Zk)))) mixed {} Tryz.func395 (hvc:=?_)),
 (Zg Zu Zk mixed {} Tryz.func353 (hvc:=?_)),
 (λq3 q1 q4 q2 q0=>Zg ZcW (Zb q3 (Zb q1 (Zb q4 (Zb q2 (Zb q0 Zk))))) mixed {loops:=[(0,[.reg 4 (.dat Iq),.reg 25 (.dat Iq),.cello 1020 6 (.ol 202 (.flat (Jp)))]),(2,[.reg 60 (.dat Iq),.ent 4 (nat_lit 2) (.flat Ztk.ety),.ent 5 (nat_lit 38) (Dp.ol (2:Go.TypeId) (Dp.flat (Ty.int IntKind.i64)))]),(4,[.reg 88 (.dat Iq),.cello 1020 7 (.ol 2 (.flat Iq)),.cello 1020 8 (.ol 38 (.ol 2 (.flat Iq))),.cello 1020 6 (.ol (nat_lit 202) (.flat Jp)),.ent 5 (nat_lit 38) (Dp.ol (2:Go.TypeId) (Dp.flat (Ty.int IntKind.i64)))]),(6,[.reg 122 (.dat Iq),.cello 1020 6 (.ol (nat_lit 202) (.flat Jp))]),(8,[.reg 127 (.dat Iq),.cello 1020 6 (.ol (nat_lit 202) (.flat Jp))])],draws:=[(1,[0,0,2,6,15,31,63],.o [0,1,2] (.alt 3 (.op 4 (.alt 5 (.op 6 .done) .done)) .done)),(6,[0,0,2,6,14,0,0,0,224,510,1023,2047,4095],.u 0 8 (.a [8,9] (.o [10,11] (.alt 12 .done .done)))),(16,[0,0,2,0,0,16,56,120,0,256,1016,2047,4095],.o [0,1] (.u 3 6 (.ld 2 (.a [9,10] (.op 11 (.alt 12 .done .done)))))),(21,[0,0,2,6,14,0,0,96,224,480,992,2046,4095,8191,16383],.u 0 7 (.alt 7 (.o [8,9] (.a [10,11] (.o [12,13] (.alt 14 .done .done)))) .done)),(22,[0,0,2,6,14,0,0,96,224,510,1023,2047,4095],.u 0 7 (.a [7,8,9] (.o [10,11] (.alt 12 .done .done)))),(29,[0,0,2,6,14,0,0,96,224,480,0,2016,0,4096,0,28672,0,131040,262112,524286,1048575,2097151,4194303],.u 0 18 (.a [18,19] (.o [20,21] (.alt 22 .done .done))))]} Tryz.func77 (hvc:=?_)),
 (Zg Zu Zk mixed {draws:=[(1,[0,1,3,7,0,16,48,127,255,511,1023],.u 0 11 .done)]} Tryz.func211 (hvc:=?_)),
 (λq0=>Zg Zu (Zb q0 Zk) mixed {draws:=[(2,[0,1,0,4,0,16,63,127],.o [0,2,4] (.alt 1 (.alt 3 (.alt 5 (.op 6 (.alt 7 .done .done)) .done) (.a [5,3] (.op 6 (.alt 7 .done .done)))) (.alt 3 (.alt 1 (.alt 5 (.op 6 (.alt 7 .done .done)) .done) (.a [5,1] (.op 6 (.alt 7 .done .done)))) (.alt 5 (.alt 1 (.alt 3 (.op 6 (.alt 7 .done .done)) .done) (.a [3,1] (.op 6 (.alt 7 .done .done)))) .done))))]} Tryz.func130 (hvc:=?_)),
 (λq0=>Zg Zu (Zb q0 Zk) mixed {} Tryz.func48 (hvc:=?_)),
 (λq1 q0=>Zg Zu (Zb q1 (Zb q0 Zk)) mixed {} Tryz.func266 (hvc:=?_)),
 (Zg Zu Zk mixed {} Tryz.func140 (hvc:=?_)),
 (Zg Zu Zk mixed {} Tryz.func141 (hvc:=?_)),
 (λq0=>Zg Zu (Zb q0 Zk) mixed {} Tryz.func387 (hvc:=?_)),
 (λq0=>Zg Zu (Zb q0 Zk) mixed {loops:=[(0,[.reg 8 (.dat Iq)])]} Tryz.func378 (hvc:=?_)),
 (λq0=>Zg Zu (Zb q0 Zk) mixed {loops:=[(0,[.reg 8 (.dat Iq)])]} Tryz.func228 (hvc:=?_)),
 (Zg Zu Zk mixed {loops:=[(0,[.reg 8 (.dat Iq)])]} Tryz.func204 (hvc:=?_)),
 (λq3 q0 q1 q4 q2=>Zg Zu (Zb q3 (Zb q0 (Zb q1 (Zb q4 (Zb q2 Zk))))) mixed {} Tryz.func146 (hvc:=?_)),
 (Zg Zu Zk mixed {} Tryz.func271 (hvc:=?_)),
 (Zg Zu Zk mixed {loops:=[(0,[.reg 8 (.dat Iq)])],draws:=[(10,[0,0,0,4,14,30,0,126,0,0,0,1536,3584,7936,1,16639,65535],.u 0 17 .done)]} Tryz.func317 (hvc:=?_)),
 (Zg Zu Zk mixed {loops:=[(0,[.reg 4 (.dat Iq),.ent 1 (nat_lit 2) (.flat Ztk.ety)])]} Tryz.func305 (hvc:=?_)),
 (λq0 q1=>Zg Zu (Zb q0 (Zb q1 Zk)) mixed {loops:=[(0,[.reg 5 (.dat Iq),.reg 6 (.dat Iq)]),(2,[.reg 8 (.dat Iq)])],draws:=[(12,[0,1,0,7,15,31,0,64,255],.u 0 9 .done)]} Tryz.func303 (hvc:=?_)),
 (λq0=>Zg Zu (Zb q0 Zk) mixed {loops:=[(0,[.reg 6 (.dat Iq)])]} Tryz.func108 (hvc:=?_)),
 (λq0=>Zg Zu (Zb q0 Zk) mixed {loops:=[(0,[.reg 3 (.dat Iq)]),(2,[.reg 4 (.dat Iq)])],draws:=[(9,[0,0,3,7,0,0,48,112,255],.u 0 9 .done)]} Tryz.func188 (hvc:=?_)),
 (λq0 q1 q2=>Zg ZcW (Zb q0 (Zb q1 (Zb q2 Zk))) mixed {draws:=[(7,[0,1,0,0,8,0,56,120,248,504,0,2040,4095,8191,16383],.op 0 (.u 2 7 (.ld 1 (.alt 9 (.a [10,11] (.o [12,13] (.alt 14 .done .done))) (.a [10,9,11] (.o [12,13] (.alt 14 .done .done))))))),(11,[0,1,0,7,15,31,0,0,128,448,960,2047,4095],.o [0,2,7] (.ld 1 (.o [3,4] (.alt 5 (.alt 6 (.alt 8 (.o [9,10,11] (.alt 12 .done .done)) .done) (.a [8,6] (.o [9,10,11] (.alt 12 .done .done)))) (.alt 6 (.alt 5 (.alt 8 (.o [9,10,11] (.alt 12 .done .done)) .done) (.alt 8 (.o [9,10] (.alt 5 (.op 11 (.alt 12 .done .done)) .done)) .done)) (.alt 8 (.alt 5 (.alt 6 (.o [9,10,11] (.alt 12 .done .done)) .done) (.alt 6 (.o [9,10] (.alt 5 (.op 11 (.alt 12 .done .done)) .done)) .done)) .done)))))),(13,[0,1,0,7,15,31,0,64,0,448,960,1984,4032,8128,0,16384,49152,131071,262143],.o [0,2,6,8,14] (.ld 1 (.o [3,4] (.ld 7 (.o [9,10] (.alt 5 (.alt 11 (.o [12,13] (.alt 15 (.o [16,17] (.alt 18 .done .done)) .done)) (.alt 15 (.op 16 (.alt 11 (.o [12,13,17] (.alt 18 .done .done)) .done)) .done)) (.alt 11 (.o [12,13] (.alt 5 (.alt 15 (.o [16,17] (.alt 18 .done .done)) .done) (.alt 15 (.op 16 (.alt 5 (.op 17 (.alt 18 .done .done)) .done)) .done))) (.alt 15 (.op 16 (.alt 5 (.alt 11 (.o [12,13,17] (.alt 18 .done .done)) .done) (.alt 11 (.o [12,13] (.alt 5 (.op 17 (.alt 18 .done .done)) .done)) .done))) .done))))))))]} Tryz.func35 (hvc:=?_)),
 (λq0=>Zg Zu (Zb q0 Zk) mixed {} Tryz.func53 (hvc:=?_)),
 (λq2 q4 q0 q1 q3=>Zg Zu (Zb q2 (Zb q4 (Zb q0 (Zb q1 (Zb q3 Zk))))) mixed {loops:=[(0,[.reg 3 (.own (.ol 202 (.flat (Jp)))),.reg 5 (.dat Iq)]),(2,[.reg 3 (.own (.ol 202 (.flat (Jp)))),.reg 7 (.dat Iq)]),(4,[.reg 3 (.own (.ol 202 (.flat (Jp)))),.reg 8 (.dat Iq)]),(6,[.reg 3 (.own (.ol 202 (.flat (Jp)))),.reg 11 (.dat Iq)])],draws:=[(6,[0,1,3,0,8,0,56,120,248,511,1023,2047,4095],.u 0 13 .done),(11,[0,0,0,6,14,0,0,0,0,384,896,1920,4064,0,0,0,0,98304,229376,491520,1048544,0,4194303,8388607],.u 0 12 (.u 13 7 (.op 21 (.a [12,20,22] (.op 23 .done)))))]} Tryz.func51 (hvc:=?_)),
 (Zg ZcW Zk mixed {} Tryz.func126 (hvc:=?_)),
 (λq0=>Zg Zu (Zb q0 Zk) mixed {loops:=[(0,[.reg 5 (.dat Iq)])],draws:=[(4,[0,0,3,7,0,16,63,127,255,511,1023,2047,4095,4095,12287,32767,65535,4095,4095,397311,921599,2097151,4194303,8388607],.u 0 6 (.alt 6 (.u 7 17 .done) .done))]} Tryz.func145 (hvc:=?_)),
 (λq0 q3 q1 q2 q4=>Zg Zu (Zb q0 (Zb q3 (Zb q1 (Zb q2 (Zb q4 Zk))))) mixed {loops:=[(0,[.ent 3 (nat_lit 4) (.flat Ty.bool)]),(4,[.reg 9 (.own (.ol 2 (.flat Iq))),.reg 10 (.dat Iq)]),(2,[.reg 7 (.dat Iq),.reg 8 (.dat Iq),.ent 4 (nat_lit 38) (Dp.ol (2:Go.TypeId) (Dp.flat (Ty.int IntKind.i64)))])],draws:=[(10,[0,0,3,7,15,31,31,127,255,511,1023,2047,4095,8191,16383,32767,8191,8191,204799,466943,991231,2097151,4194303,8388607,16777215,33554431,67108863,16777215,16777215,419430399,956301311,2030043135,4294967295,8589934591],.u 0 21 (.alt 21 (.u 22 10 (.alt 32 (.op 33 .done) .done)) .done))]} Tryz.func137 (hvc:=?_)),
 (λq0 q1 q2 q3=>Zg Zu (Zb q0 (Zb q1 (Zb q2 (Zb q3 Zk)))) mixed {loops:=[(0,[.reg 15 (.dat Iq),.cello 2 0 (.ol 4 (.flat (.bool))),.cello 2 1 (.ol 92 (.flat (Jl))),.cello 2 2 (.ol 92 (.flat (Jl))),.ent 3 (nat_lit 4) (.flat Ty.bool),.ent 4 (nat_lit 92) (.flat Jl),.ent 5 (nat_lit 92) (.flat Jl)])]} Tryz.func72 (hvc:=?_)),
 (λq1 q0=>Zg Zu (Zb q1 (Zb q0 Zk)) mixed {loops:=[(0,[.reg 5 (.dat Iq)])]} Tryz.func124 (hvc:=?_)),
 (λq3 q1 q2 q0 q4=>Zg Zu (Zb q3 (Zb q1 (Zb q2 (Zb q0 (Zb q4 Zk))))) mixed {draws:=[(1,[0,1,3,7,15,31,63,127,255,511,1023,511,4095,8191,16383],.op 0 (.alt 1 (.o [2,3,4] (.alt 5 (.u 6 4 (.op 11 (.a [10,12] (.o [13,14] .done)))) .done)) .done))]} Tryz.func50 (hvc:=?_)),
 (Zg Zu Zk mixed {draws:=[(1,[0,0,2,7,0,0,32,127,0,0,512,2047,4095,8191],.o [1,2,5,9] (.l [6,10] (.alt 0 (.alt 3 (.alt 4 (.alt 7 (.a [8,11] (.op 12 (.alt 13 .done .done))) (.a [8,7,11] (.op 12 (.alt 13 .done .done)))) (.a [8,4,7,11] (.op 12 (.alt 13 .done .done)))) (.alt 4 (.alt 3 (.alt 7 (.a [8,11] (.op 12 (.alt 13 .done .done))) (.a [8,7,11] (.op 12 (.alt 13 .done .done)))) (.a [8,3,7,11] (.op 12 (.alt 13 .done .done)))) (.alt 8 (.alt 3 (.a [4,7,11] (.op 12 (.alt 13 .done .done))) (.a [4,3,7,11] (.op 12 (.alt 13 .done .done)))) .done))) (.alt 4 (.alt 0 (.alt 3 (.alt 7 (.a [8,11] (.op 12 (.alt 13 .done .done))) (.a [8,7,11] (.op 12 (.alt 13 .done .done)))) (.a [8,3,7,11] (.op 12 (.alt 13 .done .done)))) (.a [8,0,3,7,11] (.op 12 (.alt 13 .done .done)))) (.alt 8 (.alt 0 (.alt 3 (.a [4,7,11] (.op 12 (.alt 13 .done .done))) (.a [4,3,7,11] (.op 12 (.alt 13 .done .done)))) (.a [4,0,3,7,11] (.op 12 (.alt 13 .done .done)))) .done)))))]} Tryz.func56 (hvc:=?_))⟩
 all_goals
  intro a;repeat rcases a with ⟨_,a⟩
  rintro K ⟨r,h,hK⟩;repeat'
    conv=>whnf
    first
    | with_reducible refine ZrN ?_
    | with_reducible refine ZeX (by assumption) (by assumption) (by assumption) ?_
    | with_reducible refine Yd (by assumption) ?_
    | with_reducible refine ZeZ (by assumption) ?_
    | (with_reducible refine shD ?_);first | refine ZlD h (λh=>?_) (λh=>?_) | refine Zq7 h (λh=>?_) (λh=>?_)
    | (with_reducible refine ZsO ?_);first | refine Zwh ?_ | refine Zo7 ?_
    | (with_reducible refine Zw8 ?_);first | refine Zs5 h (λh=>?_) (λh=>?_) | refine Zs6 h (λh=>?_) (λh=>?_)
    | (with_reducible refine ZsN ?_);(refine ⟨λhd=>?_,?_⟩)<;>try subst hd
    | (with_reducible refine Zxa ?_);first | with_reducible refine ZaJ h (λx hb h=>?_) | refine ZeZ (by assumption) ?_ | with_reducible refine pG h (λhp h=>?_) | with_reducible refine pA h (λx ha hb hx h=>?_) | with_reducible refine pB h (λx hb h=>?_) | refine ZaJ h (λx hb h=>?_)
    | (with_reducible refine Zw7 ?_);first | with_reducible refine vAt h (λx ha hb hx h=>?_) | refine ZeX (by assumption) (by assumption) (by assumption) ?_ | with_reducible refine pG h (λhp h=>?_) | with_reducible refine pA h (λx ha hb hx h=>?_) | with_reducible refine pB h (λx hb h=>?_) | refine vAt h (λx ha hb hx h=>?_)
    | (with_reducible refine ZsM ?_);first | with_reducible refine ZlC h (λx hb h=>?_) | refine Yd (by assumption) ?_ | with_reducible refine pG h (λhp h=>?_) | with_reducible refine pA h (λx ha hb hx h=>?_) | with_reducible refine pB h (λx hb h=>?_) | refine ZlC h (λx hb h=>?_)
    | with_reducible refine Zw9 ?_
    | (with_reducible refine ZnZ ?_);refine Zoh h hK ?_;clear h hK;intro I μ v r h hK;(repeat rcases v with ⟨_,v⟩);(try dsimp only at h)
    | with_reducible refine ⟨by assumption,?_⟩
    | with_reducible refine orL ?_
    | with_reducible refine .inr ?_
    | (with_reducible refine ZsP ?_);first | refine ⟨?_,True.intro⟩ | refine ⟨?_,?_⟩
    | refine ⟨by kernel_rfl,?_⟩
    | refine ⟨by decide,?_⟩
    | with_reducible refine Zs7 h (λhp h=>?_)
    | intro fp
    | exact trivial
    | with_reducible exact ZrG h
    | (refine pS h (λe=>?_));subst e;(repeat (first | exact hK | exact ⟨⟨rfl,rfl⟩,hK.1 _ rfl⟩ | (refine pR hK (λe hK=>?_));subst e));done
    | refine Zs7 h (λhp h=>?_)
    | refine ⟨by assumption,?_⟩
    | with_reducible refine pG h (λhp h=>?_) | with_reducible refine pA h (λx ha hb hx h=>?_) | with_reducible refine pB h (λx hb h=>?_)
    | refine pG h (λhp h=>?_)
    | fail
theorem ZiS (rec0:Int->Option (List UInt8)) (hrec:Sq 101 (ZaL rec0)):Sq 101 (ZaL (YG rec0)):=by
 refine Zg Zu (Zb hrec Zk) mixed {draws:=[(5,[0,1,3,0,8,24,56,120,248,511,1023],.o [0,1,3,4,5] (.alt 2 (.a [6,7,8] (.o [9,10] .done)) (.alt 6 (.alt 2 (.a [7,8] (.o [9,10] .done)) (.alt 7 (.alt 2 (.alt 8 (.o [9,10] .done) .done) (.a [8,2] (.o [9,10] .done))) .done)) .done)))]} (fn:=Tryz.f101) Tryz.func101 (by kernel_rfl) (by kernel_rfl) ?_;rintro ⟨n0,⟨⟩⟩ K ⟨r,h,hK⟩
 change YG rec0 n0=some r at h
 unfold YG at h
 conv=>whnf
 refine ZlD h (λh=>?_) (λh=>?_)
 conv=>whnf
 refine ZaJ h (λr0 hb0 h=>?_)
 conv=>whnf
 refine Zs7 h (λhp1 h=>?_)
 conv=>whnf
 cases h;exact hK
 conv=>whnf
 refine ZlD h (λh=>?_) (λh=>?_)
 conv=>whnf
 cases h;exact hK
 focus
  conv=>whnf
  refine ⟨by kernel_rfl,?_⟩
  conv=>whnf
  refine ⟨by decide,?_⟩
  conv=>whnf
  refine ⟨by decide,?_⟩
  conv=>whnf
  obtain ⟨r0,hb2,h⟩:=Option.bind_eq_some_iff.1 h;obtain ⟨hp3,h⟩:=guardE h;refine ⟨?_,?_⟩;rotate_left
  focus
   conv=>whnf
   refine ⟨?_,?_⟩;rotate_left
   focus
    conv=>whnf
    refine ⟨?_,?_⟩;rotate_left
    focus
     conv=>whnf
     refine ⟨_,hb2,?_⟩
     conv=>whnf
     refine ⟨hp3,?_⟩
     conv=>whnf
     refine ⟨trivial,?_⟩
    rotate_right
    focus
     conv=>whnf
     refine ⟨_,hb2,?_⟩
     conv=>whnf
     refine ⟨hp3,?_⟩
     conv=>whnf
     refine ⟨trivial,?_⟩
   rotate_right
   focus
    conv=>whnf
    refine ⟨_,hb2,?_⟩
    conv=>whnf
    refine ⟨hp3,?_⟩
    conv=>whnf
    refine ⟨trivial,?_⟩
  rotate_right
  focus
   conv=>whnf
   refine ⟨_,hb2,?_⟩
   conv=>whnf
   refine ⟨hp3,?_⟩
   conv=>whnf
   refine ⟨trivial,?_⟩
  all_goals
   conv=>whnf
   cases h;exact hK
theorem w11:Sq 101 c11:=by
 have hn:∀ n,Sq 101 (ZaL (Qc n)):=by
  intro n;induction n with
  | zero =>
  refine Zg Zu Zk mixed {draws:=[(5,[0,1,3,0,8,24,56,120,248,511,1023],.o [0,1,3,4,5] (.alt 2 (.a [6,7,8] (.o [9,10] .done)) (.alt 6 (.alt 2 (.a [7,8] (.o [9,10] .done)) (.alt 7 (.alt 2 (.alt 8 (.o [9,10] .done) .done) (.a [8,2] (.o [9,10] .done))) .done)) .done)))]} (fn:=Tryz.f101) Tryz.func101 (by kernel_rfl) (by kernel_rfl) ?_;rintro ⟨n0,⟨⟩⟩ K ⟨r,h,hK⟩;cases h
  | succ n ih=>exact ZiS _ ih
 refine ⟨(hn 0).1,?_⟩;rintro w S vs ⟨n0,⟨⟩⟩ fp K h1 h2 h3 h4 ⟨r,h,hK⟩;obtain ⟨n,hr⟩:=ZsB h;exact (hn n).2 w S vs _ fp K h1 h2 h3 h4 ⟨r,hr,hK⟩
end Go.Proofs.YtgjjlgodlhhdoaaGreatDoor
