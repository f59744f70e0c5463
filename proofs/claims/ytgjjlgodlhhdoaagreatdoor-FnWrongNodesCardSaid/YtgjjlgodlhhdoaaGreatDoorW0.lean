/-
  The functions keep their contracts, if what they call does. Printed by program.
-/
import Derived.Test.YtgjjlgodlhhdoaaGreatDoorM
import Derived.KernelRfl
namespace Go.Proofs.YtgjjlgodlhhdoaaGreatDoor
open Go Go.Sx
set_option maxRecDepth 100000
set_option maxHeartbeats 6400000
set_option linter.unusedVariables false
set_option linter.unusedSimpArgs false
structure Ws0:Prop where
 w184:Sq 364 c183->Sq 330 ZyW
 w111:Sq 357 ZwE->Sq 223 c86->Sq 377 Zyk
 w110:Sq 353 c88->Sq 357 ZwE
 w124:Sq 275 c91->Sq 218 c124
 w135:Sq 217 Zyt->Sq 218 c124->Sq 219 c131->Sq 220 c127->Sq 221 ZyA->Sq 132 ZyB
 w138:Sq 163 c94->Sq 223 c86->Sq 224 ZyC->Sq 138 c98->Sq 133 c138
 w176:Sq 208 ZyR
 w199:Sq 47 ZxB->Sq 48 c152->Sq 49 c198->Sq 14 Zy5
 w98:Sq 143 c97->Sq 138 c98
 w169:Sq 260 c168->Sq 202 ZyO
 w166:Sq 203 ZyM->Sq 202 ZyN
 w153:Sq 199 ZyI
 w160:Sq 201 c160
 w94:Sq 163 c94
 w193:Sq 315 c193
 w191:Sq 263 Zwn->Sq 264 Zy1
 w161:Sq 201 c160->Sq 138 c98->Sq 139 c99->Sq 115 ZyK
 w159:Sq 48 c152->Sq 199 ZyI->Sq 200 c154->Sq 131 c156->Sq 167 ZxA->Sq 114 c159
 w208:Sq 58 c208
 w119:Sq 378 Zyp->Sq 355 c119
 w90:Sq 340 c89->Sq 323 c90
 w114:Sq 356 Zym->Sq 378 Zyn
 w102:Sq 390 Zyf
 w85:Sq 19 c84->Sq 13 c85
 w26:Sq 393 c25->Sq 172 c23->Sq 383 c26
 w67:Sq 271 c67
 w1:Sq 34 c1
 w5:Sq 382 c4->Sq 37 c2->Sq 367 c5
 w3:Sq 300 c3
 w34:Sq 213 c22->Sq 188 c34
 w70:Sq 316 c64->Sq 318 c70
 w17:Sq 37 c2->Sq 184 c15->Sq 97 c16->Sq 102 c17
 w74:Sq 319 c74
 w75:Sq 318 c70->Sq 319 c74->Sq 271 c67->Sq 273 c75
 w45:Sq 127 c44->Sq 52 c45
 w39:Sq 126 c39
 w54:Sq 172 c23->Sq 145 c54
 w61:Sq 70 c37->Sq 123 c53->Sq 150 c55->Sq 83 c58->Sq 146 c60->Sq 71 c61
 w62:Sq 151 c62
set_option maxHeartbeats 100000000 in
theorem ws0:Ws0:=by
 refine ⟨(λq0=>Zg Zu (Zb q0 Zk) mixed {} Tryz.func330 (hvc:=?_)),
 (λq0 q1=>Zg Zu (Zb q0 (Zb q1 Zk)) mixed {} Tryz.func377 (hvc:=?_)),
 (λq0=>Zg Zu (Zb q0 Zk) mixed {} Tryz.func357 (hvc:=?_)),
 (λq0=>Zg Zu (Zb q0 Zk) mixed {loops:=[(0,[.reg 3 (.own (.ol 9 (.flat (.str)))),.reg 12 (.dat Iq)]),(2,[.reg 4 (.own (.ol 9 (.flat (.str)))),.reg 25 (.dat Iq)])]} Tryz.func218 (hvc:=?_)),
 (λq4 q2 q1 q3 q0=>Zg Zu (Zb q4 (Zb q2 (Zb q1 (Zb q3 (Zb q0 Zk))))) mixed {loops:=[(0,[.reg 25 (.dat Iq),.ent 2 (nat_lit 3) (.flat Zm6.ety)]),(2,[.reg 51 (.dat Iq),.ent 2 (nat_lit 3) (.flat Zm6.ety)])]} Tryz.func132 (hvc:=?_)),
 (λq0 q3 q1 q2=>Zg Zu (Zb q0 (Zb q3 (Zb q1 (Zb q2 Zk)))) mixed {} Tryz.func133 (hvc:=?_)),
 (Zg Zu Zk mixed {} Tryz.func208 (hvc:=?_)),
 (λq1 q2 q0=>Zg Zu (Zb q1 (Zb q2 (Zb q0 Zk))) mixed {loops:=[(0,[.reg 15 (.own (.ol 2 (.flat Iq))),.reg 36 (.dat Iq)])],draws:=[(9,[0,0,2,0,14,30,63,127,255,511,255,1279,255,7423,15615,32767,65535,131071,262143,524287,262143,1310719,262143,7602175,15990783,33554431,67108863],.u 0 27 .done)]} Tryz.func14 (hvc:=?_)),
 (λq0=>Zg Zu (Zb q0 Zk) mixed {} Tryz.func138 (hvc:=?_)),
 (λq0=>Zg Zu (Zb q0 Zk) mixed {loops:=[(0,[.reg 5 (.own (.ol 2 (.flat Iq))),.reg 16 (.dat Iq)])]} Tryz.func202 (hvc:=?_)),
 (λq0=>Zg Zu (Zb q0 Zk) mixed {loops:=[(0,[.reg 5 (.own (.ol 2 (.flat Iq))),.reg 16 (.dat Iq)])]} Tryz.func202 (hvc:=?_)),
 (Zg Zu Zk mixed {} Tryz.func199 (hvc:=?_)),
 (Zg Zu Zk mixed {} Tryz.func201 (hvc:=?_)),
 (Zg Zu Zk mixed {} Tryz.func163 (hvc:=?_)),
 (Zg Zu Zk mixed {loops:=[(0,[.reg 3 (.dat Iq),.reg 4 (.dat Iq)])]} Tryz.func315 (hvc:=?_)),
 (λq0=>Zg Zu (Zb q0 Zk) mixed {} Tryz.func264 (hvc:=?_)),
 (λq0 q2 q1=>Zg Zu (Zb q0 (Zb q2 (Zb q1 Zk))) mixed {} Tryz.func115 (hvc:=?_)),
 (λq2 q1 q0 q4 q3=>Zg Zu (Zb q2 (Zb q1 (Zb q0 (Zb q4 (Zb q3 Zk))))) mixed {loops:=[(0,[.reg 32 (.dat Iq)])]} Tryz.func114 (hvc:=?_)),
 (Zg Zu Zk mixed {loops:=[(0,[.reg 5 (.dat Iq)])],draws:=[(6,[0,0,3,7,0,0,48,112,255],.u 0 9 .done)]} Tryz.func58 (hvc:=?_)),
 (λq0=>Zg Zu (Zb q0 Zk) mixed {} Tryz.func355 (hvc:=?_)),
 (λq0=>Zg Zu (Zb q0 Zk) mixed {} Tryz.func323 (hvc:=?_)),
 (λq0=>Zg Zu (Zb q0 Zk) mixed {loops:=[(0,[.reg 8 (.dat Iq)])]} Tryz.func378 (hvc:=?_)),
 (Zg Zu Zk mixed {loops:=[(0,[.reg 3 (.dat Iq),.reg 4 (.dat Iq)])]} Tryz.func390 (hvc:=?_)),
 (λq0=>Zg Zu (Zb q0 Zk) mixed {draws:=[(2,[0,0,0,0,0,1,35,103,239,511],.o [0,2,3] (.alt 1 (.alt 4 (.a [5,6] (.o [7,8] (.alt 9 .done .done))) (.alt 5 (.alt 4 (.alt 6 (.o [7,8] (.alt 9 .done .done)) .done) (.alt 6 (.o [7,8] (.a [4,9] .done)) .done)) .done)) (.alt 4 (.alt 1 (.a [5,6] (.o [7,8] (.alt 9 .done .done))) (.a [5,1,6] (.o [7,8] (.alt 9 .done .done)))) (.alt 5 (.alt 1 (.alt 4 (.alt 6 (.o [7,8] (.alt 9 .done .done)) .done) (.alt 6 (.o [7,8] (.a [4,9] .done)) .done)) (.a [4,1,6] (.o [7,8] (.alt 9 .done .done)))) .done))))]} Tryz.func13 (hvc:=?_)),
 (λq0 q1=>Zg Zu (Zb q0 (Zb q1 Zk)) mixed {loops:=[(0,[.reg 3 (.dat Iq)])]} Tryz.func383 (hvc:=?_)),
 (Zg Zu Zk mixed {} Tryz.func271 (hvc:=?_)),
 (Zg Zu Zk mixed {loops:=[(0,[.reg 4 (.dat Iq),.cell 1007 2 Iq])],draws:=[(5,[0,0,2,6,14,30,0,0,192,448,960,2046,4094,8191,16383,32767],.u 0 10 (.alt 10 (.u 11 4 (.alt 15 .done .done)) .done))]} Tryz.func34 (hvc:=?_)),
 (λq0 q1=>Zg Zu (Zb q0 (Zb q1 Zk)) mixed {loops:=[(0,[.reg 7 (.own (.ol 2 (.flat Iq))),.reg 9 (.dat Iq),.cell 1000 0 (.sl (.int .u8)),.cell 1000 1 Iq,.cell 1000 2 Iq])],draws:=[(10,[0,0,0,4,14,30,0,64,254,511,1023],.u 0 5 (.op 6 (.alt 5 (.alt 7 (.o [8,9,10] .done) .done) (.a [7,5] (.o [8,9,10] .done))))),(12,[0,0,0,0,12,30,62,0,128,510,1023,2047],.u 0 6 (.op 7 (.alt 6 (.alt 8 (.o [9,10,11] .done) .done) (.a [8,6] (.o [9,10,11] .done)))))]} Tryz.func367 (hvc:=?_)),
 (Zg Zu Zk mixed {loops:=[(0,[.reg 5 (.dat (.bool)),.reg 6 (.dat (.bool)),.reg 8 (.dat Iq)])],draws:=[(7,[0,1,3,7,3,31,63,3,131,3,3,1539,3971,8067,16383,32767,65535],.u 0 17 .done),(8,[0,1,3,7,3,31,63,3,131,3,3,1539,3971,8067,16383,32767,65535],.u 0 17 .done)]} Tryz.func300 (hvc:=?_)),
 (λq0=>Zg Zu (Zb q0 Zk) mixed {loops:=[(0,[.reg 3 (.dat Iq)]),(2,[.reg 4 (.dat Iq)])],draws:=[(9,[0,0,3,7,0,0,48,112,255],.u 0 9 .done)]} Tryz.func188 (hvc:=?_)),
 (λq0=>Zg Zu (Zb q0 Zk) mixed {loops:=[(0,[.reg 7 (.own (.ol 2 (.flat Iq))),.reg 8 (.dat Iq)])],draws:=[(7,[0,0,0,4,0,28,60,126,254,0,512,0,3584,7680,0,0,49152,114688,261632,524286,1048574,2097151,4194303],.u 0 20 (.a [20,21] (.op 22 .done)))]} Tryz.func318 (hvc:=?_)),
 (λq1 q0 q2=>Zg Zu (Zb q1 (Zb q0 (Zb q2 Zk))) mixed {loops:=[(0,[.reg 6 (.dat Iq),.cell 1000 0 (.sl (.int .u8)),.cell 1000 1 Iq,.cell 1000 2 Iq,.cello 1005 0 (.ol (nat_lit 2) (.flat (Ty.int IntKind.i64))),.cello 1005 1 (.ol (nat_lit 2) (.flat (Ty.int IntKind.i64))),.cello 1005 2 (.ol (nat_lit 2) (.flat (Ty.int IntKind.i64))),.cello 1005 3 (.ol (nat_lit 2) (.flat (Ty.int IntKind.i64)))]),(2,[.reg 8 (.dat Iq),.cell 1000 0 (.sl (.int .u8)),.cell 1000 1 Iq,.cell 1000 2 Iq,.ent 10 (nat_lit 2) (.flat (Ty.int IntKind.i64))])],draws:=[(6,[0,1,3,0,0,31,63,127,0,256,1023,0,4095,8191,16383,0,32768,131071,0,524287,1048575,2097151,0,4194304,16777215,33554431],.o [0,1,3,4,8,11,15,18,22] (.l [9,16,23] (.a [2,5,6,7,10,12,13,14,17,19,20,21] (.op 24 (.alt 25 .done .done))))),(10,[0,1,0,0,0,16,48,120,255,511],.op 0 (.u 2 5 (.ld 1 (.alt 7 (.op 8 (.alt 9 .done .done)) .done))))]} Tryz.func102 (hvc:=?_)),
 (Zg Zu Zk mixed {loops:=[(0,[.reg 5 (.dat Iq),.reg 6 (.dat Iq)])]} Tryz.func319 (hvc:=?_)),
 (λq0 q1 q2=>Zg Zu (Zb q0 (Zb q1 (Zb q2 Zk))) mixed {draws:=[(1,[0,0,3,0,8,0,56,120,248,0,1016,2040,4095,8191,16383],.o [0,1] (.u 3 9 (.alt 2 (.o [12,13,14] .done) .done)))]} Tryz.func273 (hvc:=?_)),
 (λq0=>Zg Zu (Zb q0 Zk) mixed {loops:=[(0,[.reg 5 (.own (.ol 4 (.flat (.bool)))),.reg 6 (.dat Iq)])]} Tryz.func52 (hvc:=?_)),
 (Zg ZcW Zk mixed {} Tryz.func126 (hvc:=?_)),
 (λq0=>Zg Zu (Zb q0 Zk) mixed {loops:=[(0,[.reg 5 (.dat Iq)])],draws:=[(4,[0,0,3,7,0,16,63,127,255,511,1023,2047,4095,4095,12287,32767,65535,4095,4095,397311,921599,2097151,4194303,8388607],.u 0 6 (.alt 6 (.u 7 17 .done) .done))]} Tryz.func145 (hvc:=?_)),
 (λq3 q2 q4 q1 q0=>Zg Zu (Zb q3 (Zb q2 (Zb q4 (Zb q1 (Zb q0 Zk))))) mixed {} Tryz.func71 (hvc:=?_)),
 (Zg Zu Zk mixed {draws:=[(1,[0,1,0,4,0,16,63,127],.o [0,2,4] (.alt 1 (.alt 3 (.alt 5 (.op 6 (.alt 7 .done .done)) .done) (.a [5,3] (.op 6 (.alt 7 .done .done)))) (.alt 3 (.alt 1 (.alt 5 (.op 6 (.alt 7 .done .done)) .done) (.a [5,1] (.op 6 (.alt 7 .done .done)))) (.alt 5 (.alt 1 (.alt 3 (.op 6 (.alt 7 .done .done)) .done) (.a [3,1] (.op 6 (.alt 7 .done .done)))) .done))))]} Tryz.func151 (hvc:=?_))⟩
 all_goals
  intro a;repeat rcases a with ⟨_,a⟩
  rintro K ⟨r,h,hK⟩;repeat'
    conv=>whnf
    first
    | with_reducible refine ZrN ?_
    | with_reducible refine ZeX (by assumption) (by assumption) (by assumption) ?_
    | with_reducible refine Yd (by assumption) ?_
    | with_reducible refine ZeZ (by assumption) ?_
    | (with_reducible refine shD ?_);first | refine ZlD h (λh=>?_) (λh=>?_) | refine Zq7 h (λh=>?_) (λh=>?_)
    | (with_reducible refine ZsO ?_);first | refine Zwh ?_ | refine Zo7 ?_
    | (with_reducible refine Zw8 ?_);first | refine Zs5 h (λh=>?_) (λh=>?_) | refine Zs6 h (λh=>?_) (λh=>?_)
    | (with_reducible refine ZsN ?_);(refine ⟨λhd=>?_,?_⟩)<;>try subst hd
    | (with_reducible refine Zxa ?_);first | with_reducible refine ZaJ h (λx hb h=>?_) | refine ZeZ (by assumption) ?_ | with_reducible refine pG h (λhp h=>?_) | with_reducible refine pA h (λx ha hb hx h=>?_) | with_reducible refine pB h (λx hb h=>?_) | refine ZaJ h (λx hb h=>?_)
    | (with_reducible refine Zw7 ?_);first | with_reducible refine vAt h (λx ha hb hx h=>?_) | refine ZeX (by assumption) (by assumption) (by assumption) ?_ | with_reducible refine pG h (λhp h=>?_) | with_reducible refine pA h (λx ha hb hx h=>?_) | with_reducible refine pB h (λx hb h=>?_) | refine vAt h (λx ha hb hx h=>?_)
    | (with_reducible refine ZsM ?_);first | with_reducible refine ZlC h (λx hb h=>?_) | refine Yd (by assumption) ?_ | with_reducible refine pG h (λhp h=>?_) | with_reducible refine pA h (λx ha hb hx h=>?_) | with_reducible refine pB h (λx hb h=>?_) | refine ZlC h (λx hb h=>?_)
    | with_reducible refine Zw9 ?_
    | (with_reducible refine ZnZ ?_);refine Zoh h hK ?_;clear h hK;intro I μ v r h hK;(repeat rcases v with ⟨_,v⟩);(try dsimp only at h)
    | with_reducible refine ⟨by assumption,?_⟩
    | with_reducible refine orL ?_
    | with_reducible refine .inr ?_
    | (with_reducible refine ZsP ?_);first | refine ⟨?_,True.intro⟩ | refine ⟨?_,?_⟩
    | refine ⟨by kernel_rfl,?_⟩
    | refine ⟨by decide,?_⟩
    | with_reducible refine Zs7 h (λhp h=>?_)
    | intro fp
    | exact trivial
    | with_reducible exact ZrG h
    | (refine pS h (λe=>?_));subst e;(repeat (first | exact hK | exact ⟨⟨rfl,rfl⟩,hK.1 _ rfl⟩ | (refine pR hK (λe hK=>?_));subst e));done
    | refine Zs7 h (λhp h=>?_)
    | refine ⟨by assumption,?_⟩
    | with_reducible refine pG h (λhp h=>?_) | with_reducible refine pA h (λx ha hb hx h=>?_) | with_reducible refine pB h (λx hb h=>?_)
    | refine pG h (λhp h=>?_)
    | fail
theorem w21 (q0:Sq 37 c2):Sq 135 c21:=by
 refine Zg Zu (Zb q0 Zk) mixed {draws:=[(1,[0,0,2,7,15,0,38,102,230,0,614,1638,3686,8191,0,32767],.o [1,5,9] (.alt 0 (.alt 2 (.op 3 (.alt 4 (.alt 6 (.o [7,8] (.alt 10 (.o [11,12,13] (.a [14,15] .done)) (.a [14,10] (.o [11,12,13] (.alt 15 .done .done))))) (.a [14,6] (.o [7,8] (.alt 10 (.o [11,12,13] (.alt 15 .done .done)) .done)))) (.alt 6 (.o [7,8] (.alt 4 (.alt 10 (.o [11,12,13] (.a [14,15] .done)) (.a [14,10] (.o [11,12,13] (.alt 15 .done .done)))) (.alt 10 (.o [11,12] (.alt 4 (.op 13 (.a [14,15] .done)) (.a [14,4] (.op 13 (.alt 15 .done .done))))) (.alt 14 (.alt 4 (.alt 10 (.o [11,12,13] (.alt 15 .done .done)) .done) (.alt 10 (.o [11,12] (.alt 4 (.op 13 (.alt 15 .done .done)) .done)) .done)) .done)))) (.alt 14 (.alt 4 (.alt 6 (.o [7,8] (.alt 10 (.o [11,12,13] (.alt 15 .done .done)) .done)) .done) (.alt 6 (.o [7,8] (.alt 4 (.alt 10 (.o [11,12,13] (.alt 15 .done .done)) .done) (.alt 10 (.o [11,12] (.alt 4 (.op 13 (.alt 15 .done .done)) .done)) .done))) .done)) .done)))) (.a [14,2] (.op 3 (.alt 4 (.alt 6 (.o [7,8] (.alt 10 (.o [11,12,13] (.alt 15 .done .done)) .done)) .done) (.alt 6 (.o [7,8] (.alt 4 (.alt 10 (.o [11,12,13] (.alt 15 .done .done)) .done) (.alt 10 (.o [11,12] (.alt 4 (.op 13 (.alt 15 .done .done)) .done)) .done))) .done))))) (.alt 2 (.alt 0 (.op 3 (.alt 4 (.alt 6 (.o [7,8] (.alt 10 (.o [11,12,13] (.a [14,15] .done)) (.a [14,10] (.o [11,12,13] (.alt 15 .done .done))))) (.a [14,6] (.o [7,8] (.alt 10 (.o [11,12,13] (.alt 15 .done .done)) .done)))) (.alt 6 (.o [7,8] (.alt 4 (.alt 10 (.o [11,12,13] (.a [14,15] .done)) (.a [14,10] (.o [11,12,13] (.alt 15 .done .done)))) (.alt 10 (.o [11,12] (.alt 4 (.op 13 (.a [14,15] .done)) (.a [14,4] (.op 13 (.alt 15 .done .done))))) (.alt 14 (.alt 4 (.alt 10 (.o [11,12,13] (.alt 15 .done .done)) .done) (.alt 10 (.o [11,12] (.alt 4 (.op 13 (.alt 15 .done .done)) .done)) .done)) .done)))) (.alt 14 (.alt 4 (.alt 6 (.o [7,8] (.alt 10 (.o [11,12,13] (.alt 15 .done .done)) .done)) .done) (.alt 6 (.o [7,8] (.alt 4 (.alt 10 (.o [11,12,13] (.alt 15 .done .done)) .done) (.alt 10 (.o [11,12] (.alt 4 (.op 13 (.alt 15 .done .done)) .done)) .done))) .done)) .done)))) (.alt 6 (.o [7,8] (.alt 0 (.op 3 (.alt 4 (.alt 10 (.o [11,12,13] (.a [14,15] .done)) (.a [14,10] (.o [11,12,13] (.alt 15 .done .done)))) (.alt 10 (.o [11,12] (.alt 4 (.op 13 (.a [14,15] .done)) (.a [14,4] (.op 13 (.alt 15 .done .done))))) (.alt 14 (.alt 4 (.alt 10 (.o [11,12,13] (.alt 15 .done .done)) .done) (.alt 10 (.o [11,12] (.alt 4 (.op 13 (.alt 15 .done .done)) .done)) .done)) .done)))) (.alt 10 (.o [11,12] (.alt 0 (.op 3 (.alt 4 (.op 13 (.a [14,15] .done)) (.a [14,4] (.op 13 (.alt 15 .done .done))))) (.a [14,0] (.op 3 (.alt 4 (.op 13 (.alt 15 .done .done)) .done))))) (.alt 14 (.alt 0 (.op 3 (.alt 4 (.alt 10 (.o [11,12,13] (.alt 15 .done .done)) .done) (.alt 10 (.o [11,12] (.alt 4 (.op 13 (.alt 15 .done .done)) .done)) .done))) (.alt 10 (.o [11,12] (.alt 0 (.op 3 (.alt 4 (.op 13 (.alt 15 .done .done)) .done)) .done)) .done)) .done)))) (.alt 14 (.alt 0 (.op 3 (.alt 4 (.alt 6 (.o [7,8] (.alt 10 (.o [11,12,13] (.alt 15 .done .done)) .done)) .done) (.alt 6 (.o [7,8] (.alt 4 (.alt 10 (.o [11,12,13] (.alt 15 .done .done)) .done) (.alt 10 (.o [11,12] (.alt 4 (.op 13 (.alt 15 .done .done)) .done)) .done))) .done))) (.alt 6 (.o [7,8] (.alt 0 (.op 3 (.alt 4 (.alt 10 (.o [11,12,13] (.alt 15 .done .done)) .done) (.alt 10 (.o [11,12] (.alt 4 (.op 13 (.alt 15 .done .done)) .done)) .done))) (.alt 10 (.o [11,12] (.alt 0 (.op 3 (.alt 4 (.op 13 (.alt 15 .done .done)) .done)) .done)) .done))) .done)) .done))) (.alt 14 (.alt 0 (.alt 2 (.op 3 (.alt 4 (.alt 6 (.o [7,8] (.alt 10 (.o [11,12,13] (.alt 15 .done .done)) .done)) .done) (.alt 6 (.o [7,8] (.alt 4 (.alt 10 (.o [11,12,13] (.alt 15 .done .done)) .done) (.alt 10 (.o [11,12] (.alt 4 (.op 13 (.alt 15 .done .done)) .done)) .done))) .done))) .done) (.alt 2 (.alt 0 (.op 3 (.alt 4 (.alt 6 (.o [7,8] (.alt 10 (.o [11,12,13] (.alt 15 .done .done)) .done)) .done) (.alt 6 (.o [7,8] (.alt 4 (.alt 10 (.o [11,12,13] (.alt 15 .done .done)) .done) (.alt 10 (.o [11,12] (.alt 4 (.op 13 (.alt 15 .done .done)) .done)) .done))) .done))) (.alt 6 (.o [7,8] (.alt 0 (.op 3 (.alt 4 (.alt 10 (.o [11,12,13] (.alt 15 .done .done)) .done) (.alt 10 (.o [11,12] (.alt 4 (.op 13 (.alt 15 .done .done)) .done)) .done))) (.alt 10 (.o [11,12] (.alt 0 (.op 3 (.alt 4 (.op 13 (.alt 15 .done .done)) .done)) .done)) .done))) .done)) .done)) .done)))),(2,[0,1,0,4,12,31,63,127],.o [0,2] (.ld 1 (.alt 3 (.o [4,5,6] (.alt 7 .done .done)) .done))),(3,[0,1,0,4,12,31,63,127],.o [0,2] (.ld 1 (.alt 3 (.o [4,5,6] (.alt 7 .done .done)) .done)))]} (fn:=Tryz.f135) Tryz.func135 (by kernel_rfl) (by kernel_rfl) ?_;rintro ⟨s0,⟨⟩⟩ K ⟨r,h,hK⟩
 change QB s0=some r at h
 unfold QB at h
 focus
  conv=>whnf
  refine ⟨by kernel_rfl,?_⟩
  conv=>whnf
  obtain ⟨l01Next0,hb0,h⟩:=Option.bind_eq_some_iff.1 h;obtain ⟨x0,he1a,he1b,he1x,h⟩:=atE h;obtain ⟨l01Next1,hb2,h⟩:=Option.bind_eq_some_iff.1 h;obtain ⟨l01Next2,hb3,h⟩:=Option.bind_eq_some_iff.1 h;refine ⟨?_,?_⟩;rotate_left
  focus
   conv=>whnf
   refine ⟨?_,?_⟩;rotate_left
   focus
    conv=>whnf
    refine ⟨?_,?_⟩;rotate_left
    focus
     conv=>whnf
     refine ⟨_,hb0,?_⟩
     conv=>whnf
     refine ⟨?_,?_⟩;rotate_left
     focus
      conv=>whnf
      refine ⟨_,hb2,?_⟩
      conv=>whnf
      refine ⟨?_,?_⟩;rotate_left
      focus
       conv=>whnf
       refine ⟨_,hb3,?_⟩
       conv=>whnf
       refine ⟨he1a,he1b,Yd he1x ?_⟩
       conv=>whnf
       refine ⟨by kernel_rfl,?_⟩
       conv=>whnf
       refine ⟨he1a,he1b,Yd he1x ?_⟩
       conv=>whnf
       refine ⟨trivial,?_⟩
      rotate_right
      focus
       conv=>whnf
       refine ⟨he1a,he1b,Yd he1x ?_⟩
       conv=>whnf
       refine ⟨?_,?_⟩;rotate_left
       focus
        conv=>whnf
        refine ⟨_,hb3,?_⟩
        conv=>whnf
        refine ⟨by kernel_rfl,?_⟩
        conv=>whnf
        refine ⟨he1a,he1b,Yd he1x ?_⟩
        conv=>whnf
        refine ⟨trivial,?_⟩
       rotate_right
       focus
        conv=>whnf
        refine ⟨by kernel_rfl,?_⟩
        conv=>whnf
        refine ⟨he1a,he1b,Yd he1x ?_⟩
        conv=>whnf
        refine ⟨_,hb3,?_⟩
        conv=>whnf
        refine ⟨trivial,?_⟩
     rotate_right
     focus
      conv=>whnf
      refine ⟨he1a,he1b,Yd he1x ?_⟩
      conv=>whnf
      refine ⟨?_,?_⟩;rotate_left
      focus
       conv=>whnf
       refine ⟨_,hb2,?_⟩
       conv=>whnf
       refine ⟨?_,?_⟩;rotate_left
       focus
        conv=>whnf
        refine ⟨_,hb3,?_⟩
        conv=>whnf
        refine ⟨by kernel_rfl,?_⟩
        conv=>whnf
        refine ⟨he1a,he1b,Yd he1x ?_⟩
        conv=>whnf
        refine ⟨trivial,?_⟩
       rotate_right
       focus
        conv=>whnf
        refine ⟨by kernel_rfl,?_⟩
        conv=>whnf
        refine ⟨he1a,he1b,Yd he1x ?_⟩
        conv=>whnf
        refine ⟨_,hb3,?_⟩
        conv=>whnf
        refine ⟨trivial,?_⟩
      rotate_right
      focus
       conv=>whnf
       refine ⟨by kernel_rfl,?_⟩
       conv=>whnf
       refine ⟨he1a,he1b,Yd he1x ?_⟩
       conv=>whnf
       refine ⟨_,hb2,?_⟩
       conv=>whnf
       refine ⟨_,hb3,?_⟩
       conv=>whnf
       refine ⟨trivial,?_⟩
    rotate_right
    focus
     conv=>whnf
     refine ⟨_,hb0,?_⟩
     conv=>whnf
     refine ⟨he1a,he1b,Yd he1x ?_⟩
     conv=>whnf
     refine ⟨?_,?_⟩;rotate_left
     focus
      conv=>whnf
      refine ⟨_,hb2,?_⟩
      conv=>whnf
      refine ⟨?_,?_⟩;rotate_left
      focus
       conv=>whnf
       refine ⟨_,hb3,?_⟩
       conv=>whnf
       refine ⟨by kernel_rfl,?_⟩
       conv=>whnf
       refine ⟨he1a,he1b,Yd he1x ?_⟩
       conv=>whnf
       refine ⟨trivial,?_⟩
      rotate_right
      focus
       conv=>whnf
       refine ⟨by kernel_rfl,?_⟩
       conv=>whnf
       refine ⟨he1a,he1b,Yd he1x ?_⟩
       conv=>whnf
       refine ⟨_,hb3,?_⟩
       conv=>whnf
       refine ⟨trivial,?_⟩
     rotate_right
     focus
      conv=>whnf
      refine ⟨by kernel_rfl,?_⟩
      conv=>whnf
      refine ⟨he1a,he1b,Yd he1x ?_⟩
      conv=>whnf
      refine ⟨_,hb2,?_⟩
      conv=>whnf
      refine ⟨_,hb3,?_⟩
      conv=>whnf
      refine ⟨trivial,?_⟩
   rotate_right
   focus
    conv=>whnf
    refine ⟨_,hb0,?_⟩
    conv=>whnf
    refine ⟨?_,?_⟩;rotate_left
    focus
     conv=>whnf
     refine ⟨?_,?_⟩;rotate_left
     focus
      conv=>whnf
      refine ⟨?_,?_⟩;rotate_left
      focus
       conv=>whnf
       refine ⟨_,hb2,?_⟩
       conv=>whnf
       refine ⟨?_,?_⟩;rotate_left
       focus
        conv=>whnf
        refine ⟨_,hb3,?_⟩
        conv=>whnf
        refine ⟨he1a,he1b,Yd he1x ?_⟩
        conv=>whnf
        refine ⟨by kernel_rfl,?_⟩
        conv=>whnf
        refine ⟨he1a,he1b,Yd he1x ?_⟩
        conv=>whnf
        refine ⟨trivial,?_⟩
       rotate_right
       focus
        conv=>whnf
        refine ⟨he1a,he1b,Yd he1x ?_⟩
        conv=>whnf
        refine ⟨?_,?_⟩;rotate_left
        focus
         conv=>whnf
         refine ⟨_,hb3,?_⟩
         conv=>whnf
         refine ⟨by kernel_rfl,?_⟩
         conv=>whnf
         refine ⟨he1a,he1b,Yd he1x ?_⟩
         conv=>whnf
         refine ⟨trivial,?_⟩
        rotate_right
        focus
         conv=>whnf
         refine ⟨by kernel_rfl,?_⟩
         conv=>whnf
         refine ⟨he1a,he1b,Yd he1x ?_⟩
         conv=>whnf
         refine ⟨_,hb3,?_⟩
         conv=>whnf
         refine ⟨trivial,?_⟩
      rotate_right
      focus
       conv=>whnf
       refine ⟨he1a,he1b,Yd he1x ?_⟩
       conv=>whnf
       refine ⟨?_,?_⟩;rotate_left
       focus
        conv=>whnf
        refine ⟨_,hb2,?_⟩
        conv=>whnf
        refine ⟨?_,?_⟩;rotate_left
        focus
         conv=>whnf
         refine ⟨_,hb3,?_⟩
         conv=>whnf
         refine ⟨by kernel_rfl,?_⟩
         conv=>whnf
         refine ⟨he1a,he1b,Yd he1x ?_⟩
         conv=>whnf
         refine ⟨trivial,?_⟩
        rotate_right
        focus
         conv=>whnf
         refine ⟨by kernel_rfl,?_⟩
         conv=>whnf
         refine ⟨he1a,he1b,Yd he1x ?_⟩
         conv=>whnf
         refine ⟨_,hb3,?_⟩
         conv=>whnf
         refine ⟨trivial,?_⟩
       rotate_right
       focus
        conv=>whnf
        refine ⟨by kernel_rfl,?_⟩
        conv=>whnf
        refine ⟨he1a,he1b,Yd he1x ?_⟩
        conv=>whnf
        refine ⟨_,hb2,?_⟩
        conv=>whnf
        refine ⟨_,hb3,?_⟩
        conv=>whnf
        refine ⟨trivial,?_⟩
     rotate_right
     focus
      conv=>whnf
      refine ⟨_,hb2,?_⟩
      conv=>whnf
      refine ⟨?_,?_⟩;rotate_left
      focus
       conv=>whnf
       refine ⟨?_,?_⟩;rotate_left
       focus
        conv=>whnf
        refine ⟨?_,?_⟩;rotate_left
        focus
         conv=>whnf
         refine ⟨_,hb3,?_⟩
         conv=>whnf
         refine ⟨he1a,he1b,Yd he1x ?_⟩
         conv=>whnf
         refine ⟨by kernel_rfl,?_⟩
         conv=>whnf
         refine ⟨he1a,he1b,Yd he1x ?_⟩
         conv=>whnf
         refine ⟨trivial,?_⟩
        rotate_right
        focus
         conv=>whnf
         refine ⟨he1a,he1b,Yd he1x ?_⟩
         conv=>whnf
         refine ⟨?_,?_⟩;rotate_left
         focus
          conv=>whnf
          refine ⟨_,hb3,?_⟩
          conv=>whnf
          refine ⟨by kernel_rfl,?_⟩
          conv=>whnf
          refine ⟨he1a,he1b,Yd he1x ?_⟩
          conv=>whnf
          refine ⟨trivial,?_⟩
         rotate_right
         focus
          conv=>whnf
          refine ⟨by kernel_rfl,?_⟩
          conv=>whnf
          refine ⟨he1a,he1b,Yd he1x ?_⟩
          conv=>whnf
          refine ⟨_,hb3,?_⟩
          conv=>whnf
          refine ⟨trivial,?_⟩
       rotate_right
       focus
        conv=>whnf
        refine ⟨_,hb3,?_⟩
        conv=>whnf
        refine ⟨?_,?_⟩;rotate_left
        focus
         conv=>whnf
         refine ⟨he1a,he1b,Yd he1x ?_⟩
         conv=>whnf
         refine ⟨by kernel_rfl,?_⟩
         conv=>whnf
         refine ⟨he1a,he1b,Yd he1x ?_⟩
         conv=>whnf
         refine ⟨trivial,?_⟩
        rotate_right
        focus
         conv=>whnf
         refine ⟨he1a,he1b,Yd he1x ?_⟩
         conv=>whnf
         refine ⟨?_,?_⟩;rotate_left
         focus
          conv=>whnf
          refine ⟨by kernel_rfl,?_⟩
          conv=>whnf
          refine ⟨he1a,he1b,Yd he1x ?_⟩
          conv=>whnf
          refine ⟨trivial,?_⟩
         rotate_right
         focus
          conv=>whnf
          refine ⟨by kernel_rfl,?_⟩
          conv=>whnf
          refine ⟨he1a,he1b,Yd he1x ?_⟩
          conv=>whnf
          refine ⟨trivial,?_⟩
      rotate_right
      focus
       conv=>whnf
       refine ⟨he1a,he1b,Yd he1x ?_⟩
       conv=>whnf
       refine ⟨?_,?_⟩;rotate_left
       focus
        conv=>whnf
        refine ⟨?_,?_⟩;rotate_left
        focus
         conv=>whnf
         refine ⟨?_,?_⟩;rotate_left
         focus
          conv=>whnf
          refine ⟨_,hb3,?_⟩
          conv=>whnf
          refine ⟨by kernel_rfl,?_⟩
          conv=>whnf
          refine ⟨he1a,he1b,Yd he1x ?_⟩
          conv=>whnf
          refine ⟨trivial,?_⟩
         rotate_right
         focus
          conv=>whnf
          refine ⟨by kernel_rfl,?_⟩
          conv=>whnf
          refine ⟨he1a,he1b,Yd he1x ?_⟩
          conv=>whnf
          refine ⟨_,hb3,?_⟩
          conv=>whnf
          refine ⟨trivial,?_⟩
        rotate_right
        focus
         conv=>whnf
         refine ⟨_,hb3,?_⟩
         conv=>whnf
         refine ⟨?_,?_⟩;rotate_left
         focus
          conv=>whnf
          refine ⟨by kernel_rfl,?_⟩
          conv=>whnf
          refine ⟨he1a,he1b,Yd he1x ?_⟩
          conv=>whnf
          refine ⟨trivial,?_⟩
         rotate_right
         focus
          conv=>whnf
          refine ⟨by kernel_rfl,?_⟩
          conv=>whnf
          refine ⟨he1a,he1b,Yd he1x ?_⟩
          conv=>whnf
          refine ⟨trivial,?_⟩
       rotate_right
       focus
        conv=>whnf
        refine ⟨by kernel_rfl,?_⟩
        conv=>whnf
        refine ⟨he1a,he1b,Yd he1x ?_⟩
        conv=>whnf
        refine ⟨?_,?_⟩;rotate_left
        focus
         conv=>whnf
         refine ⟨_,hb3,?_⟩
         conv=>whnf
         refine ⟨trivial,?_⟩
        rotate_right
        focus
         conv=>whnf
         refine ⟨_,hb3,?_⟩
         conv=>whnf
         refine ⟨trivial,?_⟩
    rotate_right
    focus
     conv=>whnf
     refine ⟨he1a,he1b,Yd he1x ?_⟩
     conv=>whnf
     refine ⟨?_,?_⟩;rotate_left
     focus
      conv=>whnf
      refine ⟨?_,?_⟩;rotate_left
      focus
       conv=>whnf
       refine ⟨?_,?_⟩;rotate_left
       focus
        conv=>whnf
        refine ⟨_,hb2,?_⟩
        conv=>whnf
        refine ⟨?_,?_⟩;rotate_left
        focus
         conv=>whnf
         refine ⟨_,hb3,?_⟩
         conv=>whnf
         refine ⟨by kernel_rfl,?_⟩
         conv=>whnf
         refine ⟨he1a,he1b,Yd he1x ?_⟩
         conv=>whnf
         refine ⟨trivial,?_⟩
        rotate_right
        focus
         conv=>whnf
         refine ⟨by kernel_rfl,?_⟩
         conv=>whnf
         refine ⟨he1a,he1b,Yd he1x ?_⟩
         conv=>whnf
         refine ⟨_,hb3,?_⟩
         conv=>whnf
         refine ⟨trivial,?_⟩
       rotate_right
       focus
        conv=>whnf
        refine ⟨by kernel_rfl,?_⟩
        conv=>whnf
        refine ⟨he1a,he1b,Yd he1x ?_⟩
        conv=>whnf
        refine ⟨_,hb2,?_⟩
        conv=>whnf
        refine ⟨_,hb3,?_⟩
        conv=>whnf
        refine ⟨trivial,?_⟩
      rotate_right
      focus
       conv=>whnf
       refine ⟨_,hb2,?_⟩
       conv=>whnf
       refine ⟨?_,?_⟩;rotate_left
       focus
        conv=>whnf
        refine ⟨?_,?_⟩;rotate_left
        focus
         conv=>whnf
         refine ⟨?_,?_⟩;rotate_left
         focus
          conv=>whnf
          refine ⟨_,hb3,?_⟩
          conv=>whnf
          refine ⟨by kernel_rfl,?_⟩
          conv=>whnf
          refine ⟨he1a,he1b,Yd he1x ?_⟩
          conv=>whnf
          refine ⟨trivial,?_⟩
         rotate_right
         focus
          conv=>whnf
          refine ⟨by kernel_rfl,?_⟩
          conv=>whnf
          refine ⟨he1a,he1b,Yd he1x ?_⟩
          conv=>whnf
          refine ⟨_,hb3,?_⟩
          conv=>whnf
          refine ⟨trivial,?_⟩
        rotate_right
        focus
         conv=>whnf
         refine ⟨_,hb3,?_⟩
         conv=>whnf
         refine ⟨?_,?_⟩;rotate_left
         focus
          conv=>whnf
          refine ⟨by kernel_rfl,?_⟩
          conv=>whnf
          refine ⟨he1a,he1b,Yd he1x ?_⟩
          conv=>whnf
          refine ⟨trivial,?_⟩
         rotate_right
         focus
          conv=>whnf
          refine ⟨by kernel_rfl,?_⟩
          conv=>whnf
          refine ⟨he1a,he1b,Yd he1x ?_⟩
          conv=>whnf
          refine ⟨trivial,?_⟩
       rotate_right
       focus
        conv=>whnf
        refine ⟨by kernel_rfl,?_⟩
        conv=>whnf
        refine ⟨he1a,he1b,Yd he1x ?_⟩
        conv=>whnf
        refine ⟨?_,?_⟩;rotate_left
        focus
         conv=>whnf
         refine ⟨_,hb3,?_⟩
         conv=>whnf
         refine ⟨trivial,?_⟩
        rotate_right
        focus
         conv=>whnf
         refine ⟨_,hb3,?_⟩
         conv=>whnf
         refine ⟨trivial,?_⟩
     rotate_right
     focus
      conv=>whnf
      refine ⟨by kernel_rfl,?_⟩
      conv=>whnf
      refine ⟨he1a,he1b,Yd he1x ?_⟩
      conv=>whnf
      refine ⟨?_,?_⟩;rotate_left
      focus
       conv=>whnf
       refine ⟨_,hb2,?_⟩
       conv=>whnf
       refine ⟨_,hb3,?_⟩
       conv=>whnf
       refine ⟨trivial,?_⟩
      rotate_right
      focus
       conv=>whnf
       refine ⟨_,hb2,?_⟩
       conv=>whnf
       refine ⟨?_,?_⟩;rotate_left
       focus
        conv=>whnf
        refine ⟨_,hb3,?_⟩
        conv=>whnf
        refine ⟨trivial,?_⟩
       rotate_right
       focus
        conv=>whnf
        refine ⟨_,hb3,?_⟩
        conv=>whnf
        refine ⟨trivial,?_⟩
  rotate_right
  focus
   conv=>whnf
   refine ⟨?_,?_⟩;rotate_left
   focus
    conv=>whnf
    refine ⟨_,hb0,?_⟩
    conv=>whnf
    refine ⟨he1a,he1b,Yd he1x ?_⟩
    conv=>whnf
    refine ⟨?_,?_⟩;rotate_left
    focus
     conv=>whnf
     refine ⟨_,hb2,?_⟩
     conv=>whnf
     refine ⟨?_,?_⟩;rotate_left
     focus
      conv=>whnf
      refine ⟨_,hb3,?_⟩
      conv=>whnf
      refine ⟨by kernel_rfl,?_⟩
      conv=>whnf
      refine ⟨he1a,he1b,Yd he1x ?_⟩
      conv=>whnf
      refine ⟨trivial,?_⟩
     rotate_right
     focus
      conv=>whnf
      refine ⟨by kernel_rfl,?_⟩
      conv=>whnf
      refine ⟨he1a,he1b,Yd he1x ?_⟩
      conv=>whnf
      refine ⟨_,hb3,?_⟩
      conv=>whnf
      refine ⟨trivial,?_⟩
    rotate_right
    focus
     conv=>whnf
     refine ⟨by kernel_rfl,?_⟩
     conv=>whnf
     refine ⟨he1a,he1b,Yd he1x ?_⟩
     conv=>whnf
     refine ⟨_,hb2,?_⟩
     conv=>whnf
     refine ⟨_,hb3,?_⟩
     conv=>whnf
     refine ⟨trivial,?_⟩
   rotate_right
   focus
    conv=>whnf
    refine ⟨_,hb0,?_⟩
    conv=>whnf
    refine ⟨he1a,he1b,Yd he1x ?_⟩
    conv=>whnf
    refine ⟨?_,?_⟩;rotate_left
    focus
     conv=>whnf
     refine ⟨?_,?_⟩;rotate_left
     focus
      conv=>whnf
      refine ⟨?_,?_⟩;rotate_left
      focus
       conv=>whnf
       refine ⟨_,hb2,?_⟩
       conv=>whnf
       refine ⟨?_,?_⟩;rotate_left
       focus
        conv=>whnf
        refine ⟨_,hb3,?_⟩
        conv=>whnf
        refine ⟨by kernel_rfl,?_⟩
        conv=>whnf
        refine ⟨he1a,he1b,Yd he1x ?_⟩
        conv=>whnf
        refine ⟨trivial,?_⟩
       rotate_right
       focus
        conv=>whnf
        refine ⟨by kernel_rfl,?_⟩
        conv=>whnf
        refine ⟨he1a,he1b,Yd he1x ?_⟩
        conv=>whnf
        refine ⟨_,hb3,?_⟩
        conv=>whnf
        refine ⟨trivial,?_⟩
      rotate_right
      focus
       conv=>whnf
       refine ⟨by kernel_rfl,?_⟩
       conv=>whnf
       refine ⟨he1a,he1b,Yd he1x ?_⟩
       conv=>whnf
       refine ⟨_,hb2,?_⟩
       conv=>whnf
       refine ⟨_,hb3,?_⟩
       conv=>whnf
       refine ⟨trivial,?_⟩
     rotate_right
     focus
      conv=>whnf
      refine ⟨_,hb2,?_⟩
      conv=>whnf
      refine ⟨?_,?_⟩;rotate_left
      focus
       conv=>whnf
       refine ⟨?_,?_⟩;rotate_left
       focus
        conv=>whnf
        refine ⟨?_,?_⟩;rotate_left
        focus
         conv=>whnf
         refine ⟨_,hb3,?_⟩
         conv=>whnf
         refine ⟨by kernel_rfl,?_⟩
         conv=>whnf
         refine ⟨he1a,he1b,Yd he1x ?_⟩
         conv=>whnf
         refine ⟨trivial,?_⟩
        rotate_right
        focus
         conv=>whnf
         refine ⟨by kernel_rfl,?_⟩
         conv=>whnf
         refine ⟨he1a,he1b,Yd he1x ?_⟩
         conv=>whnf
         refine ⟨_,hb3,?_⟩
         conv=>whnf
         refine ⟨trivial,?_⟩
       rotate_right
       focus
        conv=>whnf
        refine ⟨_,hb3,?_⟩
        conv=>whnf
        refine ⟨?_,?_⟩;rotate_left
        focus
         conv=>whnf
         refine ⟨by kernel_rfl,?_⟩
         conv=>whnf
         refine ⟨he1a,he1b,Yd he1x ?_⟩
         conv=>whnf
         refine ⟨trivial,?_⟩
        rotate_right
        focus
         conv=>whnf
         refine ⟨by kernel_rfl,?_⟩
         conv=>whnf
         refine ⟨he1a,he1b,Yd he1x ?_⟩
         conv=>whnf
         refine ⟨trivial,?_⟩
      rotate_right
      focus
       conv=>whnf
       refine ⟨by kernel_rfl,?_⟩
       conv=>whnf
       refine ⟨he1a,he1b,Yd he1x ?_⟩
       conv=>whnf
       refine ⟨?_,?_⟩;rotate_left
       focus
        conv=>whnf
        refine ⟨_,hb3,?_⟩
        conv=>whnf
        refine ⟨trivial,?_⟩
       rotate_right
       focus
        conv=>whnf
        refine ⟨_,hb3,?_⟩
        conv=>whnf
        refine ⟨trivial,?_⟩
    rotate_right
    focus
     conv=>whnf
     refine ⟨by kernel_rfl,?_⟩
     conv=>whnf
     refine ⟨he1a,he1b,Yd he1x ?_⟩
     conv=>whnf
     refine ⟨?_,?_⟩;rotate_left
     focus
      conv=>whnf
      refine ⟨_,hb2,?_⟩
      conv=>whnf
      refine ⟨_,hb3,?_⟩
      conv=>whnf
      refine ⟨trivial,?_⟩
     rotate_right
     focus
      conv=>whnf
      refine ⟨_,hb2,?_⟩
      conv=>whnf
      refine ⟨?_,?_⟩;rotate_left
      focus
       conv=>whnf
       refine ⟨_,hb3,?_⟩
       conv=>whnf
       refine ⟨trivial,?_⟩
      rotate_right
      focus
       conv=>whnf
       refine ⟨_,hb3,?_⟩
       conv=>whnf
       refine ⟨trivial,?_⟩
  all_goals
   conv=>whnf
   refine ⟨by kernel_rfl,?_⟩
   conv=>whnf
   refine ⟨by kernel_rfl,?_⟩
   conv=>whnf
   refine ⟨by kernel_rfl,?_⟩
   conv=>whnf
   refine ZaJ h (λl01Next3 hb4 h=>?_)
   conv=>whnf
   refine ⟨trivial,?_⟩
   conv=>whnf
   refine ⟨by kernel_rfl,?_⟩
   conv=>whnf
   refine ⟨by kernel_rfl,?_⟩
   conv=>whnf
   refine ⟨by kernel_rfl,?_⟩
   conv=>whnf
   refine ZaJ h (λl01Next4 hb5 h=>?_)
   conv=>whnf
   refine ⟨trivial,?_⟩
   conv=>whnf
   refine ZaJ h (λl01Next5 hb6 h=>?_)
   conv=>whnf
   refine ZlD h (λh=>?_) (λh=>?_)
   conv=>whnf
   cases h;exact hK
   conv=>whnf
   refine ZlD h (λh=>?_) (λh=>?_)
   conv=>whnf
   refine ZaJ h (λl01Next6 hb7 h=>?_)
   conv=>whnf
   refine vAt h (λx1 he8a he8b he8x h=>?_)
   conv=>whnf
   refine ⟨by kernel_rfl,?_⟩
   conv=>whnf
   refine ⟨he8a,he8b,Yd he8x ?_⟩
   conv=>whnf
   cases h;exact hK
   conv=>whnf
   refine ZlD h (λh=>?_) (λh=>?_)
   conv=>whnf
   refine ZaJ h (λl01Next6 hb9 h=>?_)
   conv=>whnf
   cases h;exact hK
   conv=>whnf
   refine ZlD h (λh=>?_) (λh=>?_)
   conv=>whnf
   cases h;exact hK
   conv=>whnf
   cases h;exact hK
end Go.Proofs.YtgjjlgodlhhdoaaGreatDoor
