/-
  The functions keep their contracts, if what they call does. Printed by program.
-/
import Derived.Test.YtgjjlgodlhhdoaaGreatDoorM
import Derived.KernelRfl
namespace Go.Proofs.YtgjjlgodlhhdoaaGreatDoor
open Go Go.Sx
set_option maxRecDepth 100000
set_option maxHeartbeats 6400000
set_option linter.unusedVariables false
set_option linter.unusedSimpArgs false
structure Ws1:Prop where
 w183:Sq 364 c183
 w142:Sq 238 ZyE
 w147:Sq 175 ZyF->Sq 61 Zvr->Sq 233 c145->Sq 239 c146->Sq 164 Zxy
 w109:Sq 391 Zyj->Sq 376 c109
 w136:Sq 61 Zvr
 w139:Sq 132 ZyB->Sq 61 Zvr->Sq 133 c138->Sq 59 c139
 w123:Sq 274 Zys->Sq 275 c91->Sq 217 Zyt
 w137:Sq 223 c86->Sq 224 ZyC
 w91:Sq 197 c87->Sq 323 c90->Sq 275 c91
 w103:Sq 389 Zye->Sq 390 Zyf->Sq 388 Zyg
 w198:Sq 118 c175->Sq 119 ZyS->Sq 120 ZyV->Sq 121 c196->Sq 122 Zy4->Sq 49 c198
 w180:Sq 202 ZyU->Sq 120 ZyV
 w178:Sq 209 ZyT
 w93:Sq 374 c93
 w87:Sq 223 c86->Sq 258 ZgY->Sq 259 Zeh->Sq 197 c87
 w154:Sq 200 c154
 w126:Sq 232 Zyv
 w175:Sq 206 ZyQ->Sq 118 c175
 w182:Sq 261 c182
 w192:Sq 211 ZwF->Sq 261 c182->Sq 262 ZxC->Sq 263 Zwn->Sq 265 Zy0->Sq 264 Zy1->Sq 210 Zy2
 w97:Sq 228 c96->Sq 143 c97
 w108:Sq 392 c107->Sq 391 Zyj
 w84:Sq 34 c1->Sq 62 c52->Sq 63 c82->Sq 64 c83->Sq 19 c84
 w32:Sq 255 c31->Sq 186 c32
 w60:Sq 150 c55->Sq 51 c42->Sq 53 c46->Sq 52 c45->Sq 229 c59->Sq 146 c60
 w4:Sq 37 c2->Sq 382 c4
 w66:Sq 317 c66
 w22:Sq 213 c22
 w38:Sq 98 c13->Sq 99 c38
 w19:Sq 37 c2->Sq 96 c18->Sq 97 c16->Sq 35 c19
 w55:Sq 70 c37->Sq 51 c42->Sq 145 c54->Sq 150 c55
 w46:Sq 98 c13->Sq 53 c46
 w42:Sq 99 c38->Sq 125 c40->Sq 108 c41->Sq 103 c14->Sq 126 c39->Sq 51 c42
 w59:Sq 229 c59
 w73:Sq 267 c65->Sq 268 c68->Sq 270 c69->Sq 269 c71->Sq 272 c72->Sq 271 c67->Sq 214 c73
 w72:Sq 272 c72
 w69:Sq 98 c13->Sq 270 c69
 w79:Sq 128 c77->Sq 129 c78->Sq 54 c79
 w57:Sq 173 c57
 w200:Sq 148 c56->Sq 173 c57->Sq 124 Zy6
 w83:Sq 53 c46->Sq 37 c2->Sq 64 c83
set_option maxHeartbeats 100000000 in
theorem ws1:Ws1:=by
 refine ⟨(Zg Zu Zk mixed {} Tryz.func364 (hvc:=?_)),
 (Zg Zu Zk mixed {} Tryz.func238 (hvc:=?_)),
 (λq0 q1 q2 q3=>Zg Zu (Zb q0 (Zb q1 (Zb q2 (Zb q3 Zk)))) mixed {loops:=[(0,[.reg 27 (.dat Iq),.ent 2 (nat_lit 2) (.flat (Ty.int IntKind.i64))]),(2,[.reg 10 (.dat Iq),.ent 2 (nat_lit 2) (.flat (Ty.int IntKind.i64))])],draws:=[(7,[0,0,2,0,14,30,63,127,0,256,0,1024,0,0,12288,28672,65280,131071,262143,524287],.u 0 16 (.alt 16 (.o [17,18] (.alt 19 .done .done)) .done)),(12,[0,0,2,0,14,30,63,127,0,0,768,1792,4095,8191,16383],.u 0 14 (.alt 14 .done .done))]} Tryz.func164 (hvc:=?_)),
 (λq0=>Zg Zu (Zb q0 Zk) mixed {} Tryz.func376 (hvc:=?_)),
 (Zg Zu Zk mixed {loops:=[(0,[.reg 3 (.own (.ol 122 (.flat (Zg6)))),.reg 13 (.dat Iq)]),(2,[.reg 3 (.own (.ol 122 (.flat (Zg6)))),.reg 21 (.dat Iq)]),(4,[.reg 3 (.own (.ol 122 (.flat (Zg6)))),.reg 44 (.dat Iq)])]} Tryz.func61 (hvc:=?_)),
 (λq1 q0 q2=>Zg Zu (Zb q1 (Zb q0 (Zb q2 Zk))) mixed {loops:=[(0,[.reg 32 (.dat Iq),.ent 1 (nat_lit 2) (.flat Ztk.ety)]),(2,[.reg 50 (.dat Iq)])],draws:=[(13,[0,0,0,6,14,31,63],.u 0 5 (.alt 5 (.op 6 .done) .done))]} Tryz.func59 (hvc:=?_)),
 (λq1 q0=>Zg Zu (Zb q1 (Zb q0 Zk)) mixed {loops:=[(0,[.reg 3 (.own (.ol 9 (.flat (.str)))),.reg 9 (.dat Iq)])]} Tryz.func217 (hvc:=?_)),
 (λq0=>Zg Zu (Zb q0 Zk) mixed {loops:=[(0,[.reg 8 (.dat Iq)])]} Tryz.func224 (hvc:=?_)),
 (λq1 q0=>Zg Zu (Zb q1 (Zb q0 Zk)) mixed {loops:=[(0,[.reg 7 (.dat Iq)])]} Tryz.func275 (hvc:=?_)),
 (λq1 q0=>Zg Zu (Zb q1 (Zb q0 Zk)) mixed {} Tryz.func388 (hvc:=?_)),
 (λq3 q0 q4 q1 q2=>Zg Zu (Zb q3 (Zb q0 (Zb q4 (Zb q1 (Zb q2 Zk))))) mixed {loops:=[(0,[.reg 39 (.dat Iq),.cell 1012 0 Iq,.cell 1012 1 Iq,.cell 1012 2 Iq,.cell 1012 3 Iq,.cell 1012 4 Iq,.cell 1013 0 (.bool)])],draws:=[(11,[0,1,3,7,0,0,0,64,0,448,960,2047,4095,8191,8191,0,0,114687,262143],.u 0 11 (.alt 11 (.o [12,13,14] (.alt 15 (.a [16,17,18] .done) (.a [16,15,17,18] .done))) (.alt 15 (.alt 11 (.o [12,13,14] (.a [16,17,18] .done)) (.a [16,11] (.o [12,13,14] (.a [17,18] .done)))) (.alt 16 (.alt 11 (.o [12,13,14] (.a [15,17,18] .done)) (.a [15,11] (.o [12,13,14] (.a [17,18] .done)))) .done)))),(12,[0,1,0,7,15,0,63,0,255],.u 0 6 (.op 7 (.a [6,8] .done))),(16,[0,0,3],.o [0,1] (.alt 2 .done .done))]} Tryz.func49 (hvc:=?_)),
 (λq0=>Zg Zu (Zb q0 Zk) mixed {} Tryz.func120 (hvc:=?_)),
 (Zg Zu Zk mixed {} Tryz.func209 (hvc:=?_)),
 (Zg Zu Zk mixed {} Tryz.func374 (hvc:=?_)),
 (λq2 q1 q0=>Zg Zu (Zb q2 (Zb q1 (Zb q0 Zk))) mixed {} Tryz.func197 (hvc:=?_)),
 (Zg Zu Zk mixed {} Tryz.func200 (hvc:=?_)),
 (Zg Zu Zk mixed {} Tryz.func232 (hvc:=?_)),
 (λq0=>Zg Zu (Zb q0 Zk) mixed {} Tryz.func118 (hvc:=?_)),
 (Zg Zu Zk mixed {draws:=[(1,[0,1,3,7,15,31,0,64,192,448,0,1024,3072,8128,16320,32704,65535,131071,0,524287],.u 0 18 (.a [18,19] .done)),(2,[0,1,3,7,15,31,0,64,255,511,1023,0,2048,8191,16383,32767],.u 0 15 (.alt 15 .done .done))]} Tryz.func261 (hvc:=?_)),
 (λq2 q3 q1 q4 q0 q5=>Zg Zu (Zb q2 (Zb q3 (Zb q1 (Zb q4 (Zb q0 (Zb q5 Zk)))))) mixed {draws:=[(5,[0,0,3,7,0,16,48,127,255,0,0,1024,3072,7168,0,31744,64512,0,262143,524287],.o [0,1,4,5,6] (.u 9 9 (.alt 2 (.o [3,7,8] (.alt 18 (.op 19 .done) .done)) .done))),(6,[0,1,3,7,0,31,63,0,128,511,1023,0,4095,8191],.u 0 12 (.alt 12 (.op 13 .done) .done))]} Tryz.func210 (hvc:=?_)),
 (λq0=>Zg Zu (Zb q0 Zk) mixed {} Tryz.func143 (hvc:=?_)),
 (λq0=>Zg Zu (Zb q0 Zk) mixed {loops:=[(0,[.reg 8 (.dat Iq)])]} Tryz.func391 (hvc:=?_)),
 (λq3 q2 q0 q1=>Zg Zu (Zb q3 (Zb q2 (Zb q0 (Zb q1 Zk)))) mixed {draws:=[(4,[0,0,0,0,0,0,0,96,225,483,999,2031,4095,8191],.o [2,3,5,6] (.ld 0 (.alt 1 (.alt 4 (.a [7,8,9] (.o [10,11] (.alt 12 (.op 13 .done) .done))) (.alt 7 (.alt 4 (.a [8,9] (.o [10,11] (.alt 12 (.op 13 .done) .done))) (.alt 8 (.alt 4 (.alt 9 (.o [10,11] (.alt 12 (.op 13 .done) .done)) .done) (.alt 9 (.o [10,11] (.a [4,12] (.op 13 .done))) .done)) .done)) .done)) (.alt 4 (.alt 1 (.a [7,8,9] (.o [10,11] (.alt 12 (.op 13 .done) .done))) (.alt 7 (.alt 1 (.a [8,9] (.o [10,11] (.alt 12 (.op 13 .done) .done))) (.a [8,1,9] (.o [10,11] (.alt 12 (.op 13 .done) .done)))) .done)) (.alt 7 (.alt 1 (.alt 4 (.a [8,9] (.o [10,11] (.alt 12 (.op 13 .done) .done))) (.alt 8 (.alt 4 (.alt 9 (.o [10,11] (.alt 12 (.op 13 .done) .done)) .done) (.alt 9 (.o [10,11] (.a [4,12] (.op 13 .done))) .done)) .done)) (.alt 4 (.alt 1 (.a [8,9] (.o [10,11] (.alt 12 (.op 13 .done) .done))) (.a [8,1,9] (.o [10,11] (.alt 12 (.op 13 .done) .done)))) (.alt 8 (.alt 1 (.alt 4 (.alt 9 (.o [10,11] (.alt 12 (.op 13 .done) .done)) .done) (.alt 9 (.o [10,11] (.a [4,12] (.op 13 .done))) .done)) (.a [4,1,9] (.o [10,11] (.alt 12 (.op 13 .done) .done)))) .done))) .done)))))]} Tryz.func19 (hvc:=?_)),
 (λq0=>Zg Zu (Zb q0 Zk) mixed {loops:=[(0,[.reg 3 (.dat Iq)]),(2,[.reg 4 (.dat Iq)])],draws:=[(9,[0,1,0,7,15,31,0,64,0,448,960,1984,4095],.u 0 13 .done)]} Tryz.func186 (hvc:=?_)),
 (λq3 q0 q1 q4 q2=>Zg Zu (Zb q3 (Zb q0 (Zb q1 (Zb q4 (Zb q2 Zk))))) mixed {} Tryz.func146 (hvc:=?_)),
 (λq0=>Zg Zu (Zb q0 Zk) mixed {loops:=[(0,[.reg 5 (.own (.ol 2 (.flat Iq))),.reg 6 (.dat Iq),.reg 7 (.dat Iq),.cell 0 0 (.sl (.int .u8)),.cell 0 1 Iq,.cell 0 2 Iq])]} Tryz.func382 (hvc:=?_)),
 (Zg Zu Zk mixed {loops:=[(0,[.reg 8 (.dat Iq)])],draws:=[(10,[0,0,0,4,14,30,0,126,0,0,0,1536,3584,7936,1,16639,65535],.u 0 17 .done)]} Tryz.func317 (hvc:=?_)),
 (Zg Zu Zk mixed {loops:=[(0,[.reg 3 (.dat Iq)])]} Tryz.func213 (hvc:=?_)),
 (λq0=>Zg Zu (Zb q0 Zk) mixed {loops:=[(0,[.reg 8 (.dat Iq)])]} Tryz.func99 (hvc:=?_)),
 (λq0 q1 q2=>Zg ZcW (Zb q0 (Zb q1 (Zb q2 Zk))) mixed {draws:=[(7,[0,1,0,0,8,0,56,120,248,504,0,2040,4095,8191,16383],.op 0 (.u 2 7 (.ld 1 (.alt 9 (.a [10,11] (.o [12,13] (.alt 14 .done .done))) (.a [10,9,11] (.o [12,13] (.alt 14 .done .done))))))),(11,[0,1,0,7,15,31,0,0,128,448,960,2047,4095],.o [0,2,7] (.ld 1 (.o [3,4] (.alt 5 (.alt 6 (.alt 8 (.o [9,10,11] (.alt 12 .done .done)) .done) (.a [8,6] (.o [9,10,11] (.alt 12 .done .done)))) (.alt 6 (.alt 5 (.alt 8 (.o [9,10,11] (.alt 12 .done .done)) .done) (.alt 8 (.o [9,10] (.alt 5 (.op 11 (.alt 12 .done .done)) .done)) .done)) (.alt 8 (.alt 5 (.alt 6 (.o [9,10,11] (.alt 12 .done .done)) .done) (.alt 6 (.o [9,10] (.alt 5 (.op 11 (.alt 12 .done .done)) .done)) .done)) .done)))))),(13,[0,1,0,7,15,31,0,64,0,448,960,1984,4032,8128,0,16384,49152,131071,262143],.o [0,2,6,8,14] (.ld 1 (.o [3,4] (.ld 7 (.o [9,10] (.alt 5 (.alt 11 (.o [12,13] (.alt 15 (.o [16,17] (.alt 18 .done .done)) .done)) (.alt 15 (.op 16 (.alt 11 (.o [12,13,17] (.alt 18 .done .done)) .done)) .done)) (.alt 11 (.o [12,13] (.alt 5 (.alt 15 (.o [16,17] (.alt 18 .done .done)) .done) (.alt 15 (.op 16 (.alt 5 (.op 17 (.alt 18 .done .done)) .done)) .done))) (.alt 15 (.op 16 (.alt 5 (.alt 11 (.o [12,13,17] (.alt 18 .done .done)) .done) (.alt 11 (.o [12,13] (.alt 5 (.op 17 (.alt 18 .done .done)) .done)) .done))) .done))))))))]} Tryz.func35 (hvc:=?_)),
 (λq2 q1 q0=>Zg Zu (Zb q2 (Zb q1 (Zb q0 Zk))) mixed {} Tryz.func150 (hvc:=?_)),
 (λq0=>Zg Zu (Zb q0 Zk) mixed {} Tryz.func53 (hvc:=?_)),
 (λq2 q4 q0 q1 q3=>Zg Zu (Zb q2 (Zb q4 (Zb q0 (Zb q1 (Zb q3 Zk))))) mixed {loops:=[(0,[.reg 3 (.own (.ol 202 (.flat (Jp)))),.reg 5 (.dat Iq)]),(2,[.reg 3 (.own (.ol 202 (.flat (Jp)))),.reg 7 (.dat Iq)]),(4,[.reg 3 (.own (.ol 202 (.flat (Jp)))),.reg 8 (.dat Iq)]),(6,[.reg 3 (.own (.ol 202 (.flat (Jp)))),.reg 11 (.dat Iq)])],draws:=[(6,[0,1,3,0,8,0,56,120,248,511,1023,2047,4095],.u 0 13 .done),(11,[0,0,0,6,14,0,0,0,0,384,896,1920,4064,0,0,0,0,98304,229376,491520,1048544,0,4194303,8388607],.u 0 12 (.u 13 7 (.op 21 (.a [12,20,22] (.op 23 .done)))))]} Tryz.func51 (hvc:=?_)),
 (Zg Zu Zk mixed {loops:=[(0,[.reg 8 (.own (.ol 2 (.flat Iq))),.ent 1 (nat_lit 4) (.flat ZsZ.ety)]),(2,[.reg 11 (.dat Iq),.ent 3 (nat_lit 4) (.flat ZsZ.ety)]),(4,[.reg 12 (.dat Iq)])]} Tryz.func229 (hvc:=?_)),
 (λq3 q2 q4 q0 q1 q5=>Zg Zu (Zb q3 (Zb q2 (Zb q4 (Zb q0 (Zb q1 (Zb q5 Zk)))))) mixed {draws:=[(5,[0,0,0,6,0,31,0,64,255,511,1023],.o [0,1,2,4,6,7] (.a [3,5] (.o [8,9,10] .done)))]} Tryz.func214 (hvc:=?_)),
 (Zg Zu Zk mixed {} Tryz.func272 (hvc:=?_)),
 (λq0=>Zg Zu (Zb q0 Zk) mixed {draws:=[(1,[0,1,3,0,8,24,63,127,255,511],.o [0,1,3,4,5] (.alt 2 (.u 6 4 .done) .done))]} Tryz.func270 (hvc:=?_)),
 (λq0 q1=>Zg Zu (Zb q0 (Zb q1 Zk)) mixed {loops:=[(0,[.reg 16 (.dat (.bool)),.reg 18 (.dat Iq),.cell 1017 0 Iq,.cell 1017 1 Iq,.cell 1017 2 Iq,.cell 1017 3 Iq,.cell 1017 4 Iq]),(2,[.reg 16 (.dat (.bool)),.reg 19 (.dat Iq),.cell 1017 0 Iq,.cell 1017 1 Iq,.cell 1017 2 Iq,.cell 1017 3 Iq,.cell 1017 4 Iq])],draws:=[(14,[0,0,0,0,8,0,32,120,248,511,1023,2047,2047,0,0,28671,65535],.u 0 9 (.alt 9 (.o [10,11,12] (.alt 13 (.a [14,15,16] .done) (.a [14,13,15,16] .done))) (.alt 13 (.alt 9 (.o [10,11,12] (.a [14,15,16] .done)) (.a [14,9] (.o [10,11,12] (.a [15,16] .done)))) (.alt 14 (.alt 9 (.o [10,11,12] (.a [13,15,16] .done)) (.a [13,9] (.o [10,11,12] (.a [15,16] .done)))) .done)))),(15,[0,1,0,4,15,31,63,0,128,511,0,1024,0,4096,15360,31744,64512,0,131072,523264,1048575,0,4194303],.u 0 21 (.a [21,22] .done)),(21,[0,0,1,7],.o [0,1,2] (.alt 3 .done .done))]} Tryz.func54 (hvc:=?_)),
 (Zg Zu Zk mixed {} Tryz.func173 (hvc:=?_)),
 (λq1 q0=>Zg Zu (Zb q1 (Zb q0 Zk)) mixed {loops:=[(0,[.reg 5 (.dat Iq)])]} Tryz.func124 (hvc:=?_)),
 (λq0 q1=>Zg Zu (Zb q0 (Zb q1 Zk)) mixed {loops:=[(0,[.reg 5 (.own (.ol 2 (.flat Iq))),.reg 6 (.dat Iq),.cell 0 0 (.sl (.int .u8)),.cell 0 1 Iq,.cell 0 2 Iq])]} Tryz.func64 (hvc:=?_))⟩
 all_goals
  intro a;repeat rcases a with ⟨_,a⟩
  rintro K ⟨r,h,hK⟩;repeat'
    conv=>whnf
    first
    | with_reducible refine ZrN ?_
    | with_reducible refine ZeX (by assumption) (by assumption) (by assumption) ?_
    | with_reducible refine Yd (by assumption) ?_
    | with_reducible refine ZeZ (by assumption) ?_
    | (with_reducible refine shD ?_);first | refine ZlD h (λh=>?_) (λh=>?_) | refine Zq7 h (λh=>?_) (λh=>?_)
    | (with_reducible refine ZsO ?_);first | refine Zwh ?_ | refine Zo7 ?_
    | (with_reducible refine Zw8 ?_);first | refine Zs5 h (λh=>?_) (λh=>?_) | refine Zs6 h (λh=>?_) (λh=>?_)
    | (with_reducible refine ZsN ?_);(refine ⟨λhd=>?_,?_⟩)<;>try subst hd
    | (with_reducible refine Zxa ?_);first | with_reducible refine ZaJ h (λx hb h=>?_) | refine ZeZ (by assumption) ?_ | with_reducible refine pG h (λhp h=>?_) | with_reducible refine pA h (λx ha hb hx h=>?_) | with_reducible refine pB h (λx hb h=>?_) | refine ZaJ h (λx hb h=>?_)
    | (with_reducible refine Zw7 ?_);first | with_reducible refine vAt h (λx ha hb hx h=>?_) | refine ZeX (by assumption) (by assumption) (by assumption) ?_ | with_reducible refine pG h (λhp h=>?_) | with_reducible refine pA h (λx ha hb hx h=>?_) | with_reducible refine pB h (λx hb h=>?_) | refine vAt h (λx ha hb hx h=>?_)
    | (with_reducible refine ZsM ?_);first | with_reducible refine ZlC h (λx hb h=>?_) | refine Yd (by assumption) ?_ | with_reducible refine pG h (λhp h=>?_) | with_reducible refine pA h (λx ha hb hx h=>?_) | with_reducible refine pB h (λx hb h=>?_) | refine ZlC h (λx hb h=>?_)
    | with_reducible refine Zw9 ?_
    | (with_reducible refine ZnZ ?_);refine Zoh h hK ?_;clear h hK;intro I μ v r h hK;(repeat rcases v with ⟨_,v⟩);(try dsimp only at h)
    | with_reducible refine ⟨by assumption,?_⟩
    | with_reducible refine orL ?_
    | with_reducible refine .inr ?_
    | (with_reducible refine ZsP ?_);first | refine ⟨?_,True.intro⟩ | refine ⟨?_,?_⟩
    | refine ⟨by kernel_rfl,?_⟩
    | refine ⟨by decide,?_⟩
    | with_reducible refine Zs7 h (λhp h=>?_)
    | intro fp
    | exact trivial
    | with_reducible exact ZrG h
    | (refine pS h (λe=>?_));subst e;(repeat (first | exact hK | exact ⟨⟨rfl,rfl⟩,hK.1 _ rfl⟩ | (refine pR hK (λe hK=>?_));subst e));done
    | refine Zs7 h (λhp h=>?_)
    | refine ⟨by assumption,?_⟩
    | with_reducible refine pG h (λhp h=>?_) | with_reducible refine pA h (λx ha hb hx h=>?_) | with_reducible refine pB h (λx hb h=>?_)
    | refine pG h (λhp h=>?_)
    | fail
theorem ZiS (rec0:Int->Option (List UInt8)) (hrec:Sq 101 (ZaL rec0)):Sq 101 (ZaL (YG rec0)):=by
 refine Zg Zu (Zb hrec Zk) mixed {draws:=[(5,[0,1,3,0,8,24,56,120,248,511,1023],.o [0,1,3,4,5] (.alt 2 (.a [6,7,8] (.o [9,10] .done)) (.alt 6 (.alt 2 (.a [7,8] (.o [9,10] .done)) (.alt 7 (.alt 2 (.alt 8 (.o [9,10] .done) .done) (.a [8,2] (.o [9,10] .done))) .done)) .done)))]} (fn:=Tryz.f101) Tryz.func101 (by kernel_rfl) (by kernel_rfl) ?_;rintro ⟨n0,⟨⟩⟩ K ⟨r,h,hK⟩
 change YG rec0 n0=some r at h
 unfold YG at h
 conv=>whnf
 refine ZlD h (λh=>?_) (λh=>?_)
 conv=>whnf
 refine ZaJ h (λr0 hb0 h=>?_)
 conv=>whnf
 refine Zs7 h (λhp1 h=>?_)
 conv=>whnf
 cases h;exact hK
 conv=>whnf
 refine ZlD h (λh=>?_) (λh=>?_)
 conv=>whnf
 cases h;exact hK
 focus
  conv=>whnf
  refine ⟨by kernel_rfl,?_⟩
  conv=>whnf
  refine ⟨by decide,?_⟩
  conv=>whnf
  refine ⟨by decide,?_⟩
  conv=>whnf
  obtain ⟨r0,hb2,h⟩:=Option.bind_eq_some_iff.1 h;obtain ⟨hp3,h⟩:=guardE h;refine ⟨?_,?_⟩;rotate_left
  focus
   conv=>whnf
   refine ⟨?_,?_⟩;rotate_left
   focus
    conv=>whnf
    refine ⟨?_,?_⟩;rotate_left
    focus
     conv=>whnf
     refine ⟨_,hb2,?_⟩
     conv=>whnf
     refine ⟨hp3,?_⟩
     conv=>whnf
     refine ⟨trivial,?_⟩
    rotate_right
    focus
     conv=>whnf
     refine ⟨_,hb2,?_⟩
     conv=>whnf
     refine ⟨hp3,?_⟩
     conv=>whnf
     refine ⟨trivial,?_⟩
   rotate_right
   focus
    conv=>whnf
    refine ⟨_,hb2,?_⟩
    conv=>whnf
    refine ⟨hp3,?_⟩
    conv=>whnf
    refine ⟨trivial,?_⟩
  rotate_right
  focus
   conv=>whnf
   refine ⟨_,hb2,?_⟩
   conv=>whnf
   refine ⟨hp3,?_⟩
   conv=>whnf
   refine ⟨trivial,?_⟩
  all_goals
   conv=>whnf
   cases h;exact hK
theorem w11:Sq 101 c11:=by
 have hn:∀ n,Sq 101 (ZaL (Qc n)):=by
  intro n;induction n with
  | zero =>
  refine Zg Zu Zk mixed {draws:=[(5,[0,1,3,0,8,24,56,120,248,511,1023],.o [0,1,3,4,5] (.alt 2 (.a [6,7,8] (.o [9,10] .done)) (.alt 6 (.alt 2 (.a [7,8] (.o [9,10] .done)) (.alt 7 (.alt 2 (.alt 8 (.o [9,10] .done) .done) (.a [8,2] (.o [9,10] .done))) .done)) .done)))]} (fn:=Tryz.f101) Tryz.func101 (by kernel_rfl) (by kernel_rfl) ?_;rintro ⟨n0,⟨⟩⟩ K ⟨r,h,hK⟩;cases h
  | succ n ih=>exact ZiS _ ih
 refine ⟨(hn 0).1,?_⟩;rintro w S vs ⟨n0,⟨⟩⟩ fp K h1 h2 h3 h4 ⟨r,h,hK⟩;obtain ⟨n,hr⟩:=ZsB h;exact (hn n).2 w S vs _ fp K h1 h2 h3 h4 ⟨r,hr,hK⟩
end Go.Proofs.YtgjjlgodlhhdoaaGreatDoor
