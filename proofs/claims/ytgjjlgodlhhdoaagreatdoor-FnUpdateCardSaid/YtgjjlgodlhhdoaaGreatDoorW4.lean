/-
  The functions keep their contracts, if what they call does. Printed by program.
-/
import Derived.Test.YtgjjlgodlhhdoaaGreatDoorM
import Derived.KernelRfl
namespace Go.Proofs.YtgjjlgodlhhdoaaGreatDoor
open Go Go.Sx
set_option maxRecDepth 100000
set_option maxHeartbeats 6400000
set_option linter.unusedVariables false
set_option linter.unusedSimpArgs false
structure Ws4:Prop where
 w148:Sq 240 Zxy->Sq 165 c148
 w147:Sq 164 c146->Sq 240 Zxy
 w112:Sq 356 Zyl
 w119:Sq 355 Zyp->Sq 358 c119
 w127:Sq 220 Zyv->Sq 277 c127
 w144:Sq 61 ZyB->Sq 233 ZyF
 w100:Sq 395 c99->Sq 138 c97->Sq 389 Zyd
 w205:Sq 122 Zy9
 w196:Sq 263 c196
 w206:Sq 118 ZyY->Sq 119 Zwn->Sq 120 ZyV->Sq 121 Zy8->Sq 122 Zy9->Sq 49 c206
 w168:Sq 260 c167->Sq 202 c168
 w170:Sq 48 Zxz->Sq 202 ZyM->Sq 204 ZyN->Sq 205 ZyO->Sq 117 ZyP
 w164:Sq 203 c164
 w180:Sq 202 ZyU->Sq 120 ZyV
 w98:Sq 139 c98
 w86:Sq 223 c85->Sq 258 ZgY->Sq 259 Zeh->Sq 197 c86
 w156:Sq 223 c85->Sq 241 c156
 w159:Sq 201 c159
 w184:Sq 207 ZyW
 w171:Sq 59 c138->Sq 113 ZyD->Sq 77 ZyG->Sq 114 ZxA->Sq 115 c160->Sq 78 c162->Sq 116 ZyL->Sq 117 ZyP->Sq 47 c171
 w163:Sq 116 ZyL
 w160:Sq 201 c159->Sq 138 c97->Sq 139 c98->Sq 115 c160
 w204:Sq 210 Zy6->Sq 211 ZxC->Sq 212 c203->Sq 121 Zy8
 w222:Sq 58 c222
 w114:Sq 378 Zym->Sq 355 Zyn
 w129:Sq 228 Zyw->Sq 143 Zyx
 w133:Sq 278 Zyy->Sq 221 Zyz
 w95:Sq 226 c94->Sq 228 c95
 w31:Sq 303 c24->Sq 213 c22->Sq 172 c23->Sq 304 c29->Sq 305 c30->Sq 255 c31
 w32:Sq 255 c31->Sq 186 c32
 w36:Sq 172 c23->Sq 149 c36
 w220:Sq 70 c37->Sq 53 c46->Sq 22 ZD1
 w2:Sq 37 c2
 w16:Sq 97 c16
 w68:Sq 317 c66->Sq 271 c67->Sq 268 c68
 w63:Sq 352 c63
 w70:Sq 316 c64->Sq 318 c70
 w18:Sq 182 c10->Sq 183 c12->Sq 103 c14->Sq 102 c17->Sq 96 c18
 w64:Sq 97 c16->Sq 98 c13->Sq 103 c14->Sq 352 c63->Sq 316 c64
 w40:Sq 126 c39->Sq 125 c40
 w43:Sq 70 c37->Sq 37 c2->Sq 51 c42->Sq 136 c43
 w44:Sq 127 c44
 w73:Sq 267 c65->Sq 268 c68->Sq 270 c69->Sq 269 c71->Sq 272 c72->Sq 271 c67->Sq 214 c73
 w79:Sq 128 c77->Sq 129 c78->Sq 54 c79
 w77:Sq 214 c73->Sq 215 c76->Sq 128 c77
set_option maxHeartbeats 100000000 in
theorem ws4:Ws4:=by
 refine ⟨(λq0=>Zg Zu (Zb q0 Zk) mixed {loops:=[(0,[.reg 6 (.own (.ol 2 (.flat Iq))),.reg 19 (.dat Iq)])]} Tryz.func165 (hvc:=?_)),
 (λq0=>Zg Zu (Zb q0 Zk) mixed {loops:=[(0,[.reg 8 (.dat Iq),.ent 3 (nat_lit 2) (.flat Ztk.ety)])],draws:=[(1,[0,1,0,7,15,0,0,96,0,511,1023],.u 0 7 (.alt 7 (.a [8,9] (.op 10 .done)) (.a [8,7,9] (.op 10 .done)))),(6,[0,0,0,0,8,0,56,120,252,508,0,1024,0,7168,15360,0,0,98304,229376,523264,1048572,2097151,4194303],.u 0 22 (.alt 22 .done .done))]} Tryz.func240 (hvc:=?_)),
 (Zg Zu Zk mixed {} Tryz.func356 (hvc:=?_)),
 (λq0=>Zg Zu (Zb q0 Zk) mixed {} Tryz.func358 (hvc:=?_)),
 (λq0=>Zg Zu (Zb q0 Zk) mixed {} Tryz.func277 (hvc:=?_)),
 (λq0=>Zg Zu (Zb q0 Zk) mixed {loops:=[(0,[.reg 5 (.own (.ol 2 (.flat Iq))),.reg 11 (.dat Iq)])]} Tryz.func233 (hvc:=?_)),
 (λq1 q0=>Zg Zu (Zb q1 (Zb q0 Zk)) mixed {} Tryz.func389 (hvc:=?_)),
 (Zg Zu Zk mixed {} Tryz.func122 (hvc:=?_)),
 (Zg Zu Zk mixed {draws:=[(1,[0,0,3,0,0,24,7,127],.u 0 8 .done)]} Tryz.func263 (hvc:=?_)),
 (λq3 q0 q4 q1 q2=>Zg Zu (Zb q3 (Zb q0 (Zb q4 (Zb q1 (Zb q2 Zk))))) mixed {loops:=[(0,[.reg 39 (.dat Iq),.cell 1012 0 Iq,.cell 1012 1 Iq,.cell 1012 2 Iq,.cell 1012 3 Iq,.cell 1012 4 Iq,.cell 1013 0 (.bool)])],draws:=[(11,[0,1,3,7,0,0,0,64,0,448,960,2047,4095,8191,8191,0,0,114687,262143],.u 0 11 (.alt 11 (.o [12,13,14] (.alt 15 (.a [16,17,18] .done) (.a [16,15,17,18] .done))) (.alt 15 (.alt 11 (.o [12,13,14] (.a [16,17,18] .done)) (.a [16,11] (.o [12,13,14] (.a [17,18] .done)))) (.alt 16 (.alt 11 (.o [12,13,14] (.a [15,17,18] .done)) (.a [15,11] (.o [12,13,14] (.a [17,18] .done)))) .done)))),(12,[0,1,0,7,15,0,63,0,255],.u 0 6 (.op 7 (.a [6,8] .done))),(16,[0,0,3],.o [0,1] (.alt 2 .done .done))]} Tryz.func49 (hvc:=?_)),
 (λq0=>Zg Zu (Zb q0 Zk) mixed {loops:=[(0,[.reg 5 (.own (.ol 2 (.flat Iq))),.reg 16 (.dat Iq)])]} Tryz.func202 (hvc:=?_)),
 (λq2 q0 q1 q3=>Zg Zu (Zb q2 (Zb q0 (Zb q1 (Zb q3 Zk)))) mixed {loops:=[(0,[.reg 20 (.dat Iq),.ent 0 (nat_lit 3) (.flat Zm6.ety)]),(2,[.reg 7 (.own (.ol 2 (.flat Iq))),.reg 43 (.dat Iq),.ent 0 (nat_lit 3) (.flat Zm6.ety)]),(4,[.reg 60 (.dat Iq),.ent 0 (nat_lit 3) (.flat Zm6.ety)])]} Tryz.func117 (hvc:=?_)),
 (Zg Zu Zk mixed {} Tryz.func203 (hvc:=?_)),
 (λq0=>Zg Zu (Zb q0 Zk) mixed {} Tryz.func120 (hvc:=?_)),
 (Zg Zu Zk mixed {loops:=[(0,[.reg 3 (.dat Iq)])],draws:=[(4,[0,0,2,7,15,0,0,96,224,511],.u 0 10 .done)]} Tryz.func139 (hvc:=?_)),
 (λq2 q1 q0=>Zg Zu (Zb q2 (Zb q1 (Zb q0 Zk))) mixed {} Tryz.func197 (hvc:=?_)),
 (λq0=>Zg Zu (Zb q0 Zk) mixed {} Tryz.func241 (hvc:=?_)),
 (Zg Zu Zk mixed {} Tryz.func201 (hvc:=?_)),
 (Zg Zu Zk mixed {} Tryz.func207 (hvc:=?_)),
 (λq6 q5 q7 q1 q2 q0 q3 q4=>Zg Zu (Zb q6 (Zb q5 (Zb q7 (Zb q1 (Zb q2 (Zb q0 (Zb q3 (Zb q4 Zk)))))))) mixed {} Tryz.func47 (hvc:=?_)),
 (Zg Zu Zk mixed {loops:=[(0,[.reg 23 (.dat Iq),.ent 0 (nat_lit 4) (.flat ZsZ.ety)]),(2,[.reg 35 (.dat Iq),.ent 0 (nat_lit 4) (.flat ZsZ.ety)])]} Tryz.func116 (hvc:=?_)),
 (λq0 q2 q1=>Zg Zu (Zb q0 (Zb q2 (Zb q1 Zk))) mixed {} Tryz.func115 (hvc:=?_)),
 (λq0 q1 q2=>Zg Zu (Zb q0 (Zb q1 (Zb q2 Zk))) mixed {draws:=[(1,[0,1,0,4,3,31],.u 0 6 .done),(2,[0,0,0,0,15,0,0,0,0,511,1023,0,0,0,0,31743,0,0,0,0,1047551,2096127,4194303,0,16777215],.u 0 4 (.u 5 4 (.u 11 4 (.u 16 4 (.alt 4 (.alt 9 (.op 10 (.alt 15 (.alt 20 (.o [21,22] (.a [23,24] .done)) (.a [23,20] (.o [21,22] (.alt 24 .done .done)))) (.a [23,15,20] (.o [21,22] (.alt 24 .done .done))))) (.a [23,9] (.op 10 (.a [15,20] (.o [21,22] (.alt 24 .done .done)))))) (.a [23,4,9] (.op 10 (.a [15,20] (.o [21,22] (.alt 24 .done .done)))))))))),(5,[0,1,3,7,0,0,48,127,255,511],.u 0 6 (.alt 6 (.o [7,8,9] .done) .done)),(8,[0,0,1,7],.op 0 (.alt 1 (.a [2,3] .done) (.a [2,1,3] .done)))]} Tryz.func121 (hvc:=?_)),
 (Zg Zu Zk mixed {loops:=[(0,[.reg 5 (.dat Iq)])],draws:=[(6,[0,0,3,7,0,0,48,112,255],.u 0 9 .done)]} Tryz.func58 (hvc:=?_)),
 (λq0=>Zg Zu (Zb q0 Zk) mixed {} Tryz.func355 (hvc:=?_)),
 (λq0=>Zg Zu (Zb q0 Zk) mixed {} Tryz.func143 (hvc:=?_)),
 (λq0=>Zg Zu (Zb q0 Zk) mixed {} Tryz.func221 (hvc:=?_)),
 (λq0=>Zg Zu (Zb q0 Zk) mixed {loops:=[(0,[.reg 8 (.dat Iq)])]} Tryz.func228 (hvc:=?_)),
 (λq1 q2 q4 q3 q0=>Zg Zu (Zb q1 (Zb q2 (Zb q4 (Zb q3 (Zb q0 Zk))))) mixed {loops:=[(0,[.reg 5 (.dat Iq)]),(2,[.reg 7 (.dat Iq)]),(5,[.reg 9 (.dat Iq)])],draws:=[(13,[0,1,0,7,15,31,0,64,255,511,1023,2047,1023,8191,16383,32767,1023,66559,262143,524287,1048575,2097151,4194303,2097151,16777215,33554431,67108863,2097151,136314879,536870911,1073741823],.u 0 31 .done),(25,[0,1,3,7,15,31,63,127,255,511,1023,2047,4095,511,8703,25087,57855,131071,262143,524287,1048575,2097151,4194303,8388607,16777215,33554431],.u 0 26 .done)]} Tryz.func255 (hvc:=?_)),
 (λq0=>Zg Zu (Zb q0 Zk) mixed {loops:=[(0,[.reg 3 (.dat Iq)]),(2,[.reg 4 (.dat Iq)])],draws:=[(9,[0,1,0,7,15,31,0,64,0,448,960,1984,4095],.u 0 13 .done)]} Tryz.func186 (hvc:=?_)),
 (λq0=>Zg Zu (Zb q0 Zk) mixed {loops:=[(0,[.reg 6 (.dat Iq)]),(2,[.reg 7 (.dat Iq)])]} Tryz.func149 (hvc:=?_)),
 (λq1 q0=>Zg Zu (Zb q1 (Zb q0 Zk)) mixed {} Tryz.func22 (hvc:=?_)),
 (Zg Zu Zk mixed {draws:=[(3,[0,1,3,7,0,16,48,112,240,511],.u 0 10 .done),(4,[0,1,3,7,0,16,48,112,255,511,1023,2047],.u 0 10 (.alt 10 (.op 11 .done) .done))]} Tryz.func37 (hvc:=?_)),
 (Zg Zu Zk mixed {} Tryz.func97 (hvc:=?_)),
 (λq0 q1=>Zg Zu (Zb q0 (Zb q1 Zk)) mixed {loops:=[(0,[.reg 16 (.dat Iq),.reg 17 (.dat Iq)]),(2,[.reg 16 (.dat Iq),.reg 18 (.dat Iq)])]} Tryz.func268 (hvc:=?_)),
 (Zg Zu Zk mixed {draws:=[(3,[0,1,0,4,0,16,60,124,252,511,1023,2047,0,4096,16383,32767,65535,131071],.u 0 18 .done)]} Tryz.func352 (hvc:=?_)),
 (λq0=>Zg Zu (Zb q0 Zk) mixed {loops:=[(0,[.reg 7 (.own (.ol 2 (.flat Iq))),.reg 8 (.dat Iq)])],draws:=[(7,[0,0,0,4,0,28,60,126,254,0,512,0,3584,7680,0,0,49152,114688,261632,524286,1048574,2097151,4194303],.u 0 20 (.a [20,21] (.op 22 .done)))]} Tryz.func318 (hvc:=?_)),
 (λq2 q3 q1 q0=>Zg ZcW (Zb q2 (Zb q3 (Zb q1 (Zb q0 Zk)))) mixed {loops:=[(0,[.reg 9 (.own (.ol 40 (Zos))),.reg 10 (.dat Iq),.cell 0 0 (.sl (.int .u8)),.cell 0 1 Iq,.cell 0 2 Iq])]} Tryz.func96 (hvc:=?_)),
 (λq2 q0 q1 q3=>Zg Zu (Zb q2 (Zb q0 (Zb q1 (Zb q3 Zk)))) mixed {loops:=[(0,[.reg 9 (.dat Iq),.ent 2 (nat_lit 2) (.flat (Ty.int IntKind.i64))]),(2,[.reg 10 (.dat Iq),.ent 2 (nat_lit 2) (.flat (Ty.int IntKind.i64))])],draws:=[(8,[0,0,2,0,14,30,63,127,0,256,0,1024,0,0,0,24576,57344,126976,258048,524032,1048575,2097151,4194303],.u 0 19 (.alt 19 (.o [20,21] (.alt 22 .done .done)) .done)),(12,[0,0,2,0,14,30,63,127,0,0,768,1792,4095,8191,16383],.u 0 14 (.alt 14 .done .done))]} Tryz.func316 (hvc:=?_)),
 (λq0=>Zg ZcW (Zb q0 Zk) mixed {loops:=[(0,[.reg 0 (.own (.ol 202 (.flat (Jp)))),.reg 11 (.dat Iq)]),(2,[.reg 0 (.own (.ol 202 (.flat (Jp)))),.reg 12 (.dat Iq)])]} Tryz.func125 (hvc:=?_)),
 (λq1 q2 q0=>Zg Zu (Zb q1 (Zb q2 (Zb q0 Zk))) mixed {loops:=[(0,[.reg 5 (.own (.ol 2 (.flat Iq))),.reg 8 (.dat Iq),.cell 0 0 (.sl (.int .u8)),.cell 0 1 Iq,.cell 0 2 Iq])]} Tryz.func136 (hvc:=?_)),
 (Zg Zu Zk mixed {loops:=[(0,[.reg 5 (.dat Iq)])]} Tryz.func127 (hvc:=?_)),
 (λq3 q2 q4 q0 q1 q5=>Zg Zu (Zb q3 (Zb q2 (Zb q4 (Zb q0 (Zb q1 (Zb q5 Zk)))))) mixed {draws:=[(5,[0,0,0,6,0,31,0,64,255,511,1023],.o [0,1,2,4,6,7] (.a [3,5] (.o [8,9,10] .done)))]} Tryz.func214 (hvc:=?_)),
 (λq0 q1=>Zg Zu (Zb q0 (Zb q1 Zk)) mixed {loops:=[(0,[.reg 16 (.dat (.bool)),.reg 18 (.dat Iq),.cell 1017 0 Iq,.cell 1017 1 Iq,.cell 1017 2 Iq,.cell 1017 3 Iq,.cell 1017 4 Iq]),(2,[.reg 16 (.dat (.bool)),.reg 19 (.dat Iq),.cell 1017 0 Iq,.cell 1017 1 Iq,.cell 1017 2 Iq,.cell 1017 3 Iq,.cell 1017 4 Iq])],draws:=[(14,[0,0,0,0,8,0,32,120,248,511,1023,2047,2047,0,0,28671,65535],.u 0 9 (.alt 9 (.o [10,11,12] (.alt 13 (.a [14,15,16] .done) (.a [14,13,15,16] .done))) (.alt 13 (.alt 9 (.o [10,11,12] (.a [14,15,16] .done)) (.a [14,9] (.o [10,11,12] (.a [15,16] .done)))) (.alt 14 (.alt 9 (.o [10,11,12] (.a [13,15,16] .done)) (.a [13,9] (.o [10,11,12] (.a [15,16] .done)))) .done)))),(15,[0,1,0,4,15,31,63,0,128,511,0,1024,0,4096,15360,31744,64512,0,131072,523264,1048575,0,4194303],.u 0 21 (.a [21,22] .done)),(21,[0,0,1,7],.o [0,1,2] (.alt 3 .done .done))]} Tryz.func54 (hvc:=?_)),
 (λq0 q1=>Zg Zu (Zb q0 (Zb q1 Zk)) mixed {draws:=[(1,[0,0,0,0,8,31,0,0,0,0,512,2047,4095,0,16383],.u 0 5 (.u 6 5 (.alt 5 (.alt 11 (.op 12 (.a [13,14] .done)) (.a [13,11] (.op 12 (.alt 14 .done .done)))) (.a [13,5,11] (.op 12 (.alt 14 .done .done)))))),(2,[0,0,0,4,15,0,0,0,128,511,1023,0,4095],.u 0 4 (.u 5 4 (.alt 4 (.alt 9 (.op 10 (.a [11,12] .done)) (.a [11,9] (.op 10 (.alt 12 .done .done)))) (.a [11,4,9] (.op 10 (.alt 12 .done .done)))))),(3,[0,1,0,0,0,0,32,124,255,511,1023],.u 0 7 (.alt 7 (.o [8,9] (.alt 10 .done .done)) .done)),(4,[0,1,0,0,0,0,32,124,255,511,1023],.u 0 7 (.alt 7 (.o [8,9] (.alt 10 .done .done)) .done)),(5,[0,1,0,0,0,16,60,127,255,511],.u 0 6 (.alt 6 (.o [7,8] (.alt 9 .done .done)) .done)),(6,[0,1,0,0,0,16,60,127,255,511],.u 0 6 (.alt 6 (.o [7,8] (.alt 9 .done .done)) .done)),(7,[0,0,1,7],.op 0 (.alt 1 (.a [2,3] .done) (.a [2,1,3] .done)))]} Tryz.func128 (hvc:=?_))⟩
 all_goals
  intro a;repeat rcases a with ⟨_,a⟩
  rintro K ⟨r,h,hK⟩;repeat'
    conv=>whnf
    first
    | with_reducible refine ZrN ?_
    | with_reducible refine ZeX (by assumption) (by assumption) (by assumption) ?_
    | with_reducible refine Yd (by assumption) ?_
    | with_reducible refine ZeZ (by assumption) ?_
    | (with_reducible refine shD ?_);first | refine ZlD h (λh=>?_) (λh=>?_) | refine Zq7 h (λh=>?_) (λh=>?_)
    | (with_reducible refine ZsO ?_);first | refine Zwh ?_ | refine Zo7 ?_
    | (with_reducible refine Zw8 ?_);first | refine Zs5 h (λh=>?_) (λh=>?_) | refine Zs6 h (λh=>?_) (λh=>?_)
    | (with_reducible refine ZsN ?_);(refine ⟨λhd=>?_,?_⟩)<;>try subst hd
    | (with_reducible refine Zxa ?_);first | with_reducible refine ZaJ h (λx hb h=>?_) | refine ZeZ (by assumption) ?_ | with_reducible refine pG h (λhp h=>?_) | with_reducible refine pA h (λx ha hb hx h=>?_) | with_reducible refine pB h (λx hb h=>?_) | refine ZaJ h (λx hb h=>?_)
    | (with_reducible refine Zw7 ?_);first | with_reducible refine vAt h (λx ha hb hx h=>?_) | refine ZeX (by assumption) (by assumption) (by assumption) ?_ | with_reducible refine pG h (λhp h=>?_) | with_reducible refine pA h (λx ha hb hx h=>?_) | with_reducible refine pB h (λx hb h=>?_) | refine vAt h (λx ha hb hx h=>?_)
    | (with_reducible refine ZsM ?_);first | with_reducible refine ZlC h (λx hb h=>?_) | refine Yd (by assumption) ?_ | with_reducible refine pG h (λhp h=>?_) | with_reducible refine pA h (λx ha hb hx h=>?_) | with_reducible refine pB h (λx hb h=>?_) | refine ZlC h (λx hb h=>?_)
    | with_reducible refine Zw9 ?_
    | (with_reducible refine ZnZ ?_);refine Zoh h hK ?_;clear h hK;intro I μ v r h hK;(repeat rcases v with ⟨_,v⟩);(try dsimp only at h)
    | with_reducible refine ⟨by assumption,?_⟩
    | with_reducible refine orL ?_
    | with_reducible refine .inr ?_
    | (with_reducible refine ZsP ?_);first | refine ⟨?_,True.intro⟩ | refine ⟨?_,?_⟩
    | refine ⟨by kernel_rfl,?_⟩
    | refine ⟨by decide,?_⟩
    | with_reducible refine Zs7 h (λhp h=>?_)
    | intro fp
    | exact trivial
    | with_reducible exact ZrG h
    | (refine pS h (λe=>?_));subst e;(repeat (first | exact hK | exact ⟨⟨rfl,rfl⟩,hK.1 _ rfl⟩ | (refine pR hK (λe hK=>?_));subst e));done
    | refine Zs7 h (λhp h=>?_)
    | refine ⟨by assumption,?_⟩
    | with_reducible refine pG h (λhp h=>?_) | with_reducible refine pA h (λx ha hb hx h=>?_) | with_reducible refine pB h (λx hb h=>?_)
    | refine pG h (λhp h=>?_)
    | fail
theorem w52 (q3:Sq 134 c20) (q1:Sq 135 c21) (q5:Sq 37 c2) (q6:Sq 96 c18) (q2:Sq 136 c43) (q7:Sq 70 c37) (q4:Sq 137 c50) (q0:Sq 105 c51):Sq 62 c52:=by
 refine Zg Zu (Zb q3 (Zb q1 (Zb q5 (Zb q6 (Zb q2 (Zb q7 (Zb q4 (Zb q0 Zk)))))))) mixed {draws:=[(8,[0,0,0,0,0,24,57,123,255,511],.o [2,3,4] (.ld 0 (.alt 1 (.a [5,6,7] (.o [8,9] .done)) (.alt 5 (.alt 1 (.a [6,7] (.o [8,9] .done)) (.a [6,1,7] (.o [8,9] .done))) .done))))]} (fn:=Tryz.f62) Tryz.func62 (by kernel_rfl) (by kernel_rfl) ?_;rintro ⟨s0,⟨⟩⟩ K ⟨r,h,hK⟩
 change Vr s0=some r at h
 unfold Vr at h
 conv=>whnf
 refine ZaJ h (λl09DrawBlock0 hb0 h=>?_)
 conv=>whnf
 intro fp1
 conv=>whnf
 intro fp2
 conv=>whnf
 intro fp3
 conv=>whnf
 refine ZaJ h (λl11DrawCorner0 hb4 h=>?_)
 conv=>whnf
 refine ZaJ h (λl01Next0 hb5 h=>?_)
 conv=>whnf
 refine ZlD h (λh=>?_) (λh=>?_)
 conv=>whnf
 refine ZaJ h (λl07Draw0 hb6 h=>?_)
 conv=>whnf
 intro fp7
 conv=>whnf
 intro fp8
 conv=>whnf
 intro fp9
 conv=>whnf
 refine ZaJ h (λl09DrawBroken0 hb10 h=>?_)
 conv=>whnf
 refine ZaJ h (λIsBlock0 hb11 h=>?_)
 conv=>whnf
 refine Zs5 h (λh=>?_) (λh=>?_)
 conv=>whnf
 refine ZlD h (λh=>?_) (λh=>?_)
 conv=>whnf
 refine ZaJ h (λl01Next1 hb12 h=>?_)
 conv=>whnf
 refine ZlD h (λh=>?_) (λh=>?_)
 focus
  conv=>whnf
  refine ZaJ h (λl10Break0 hb13 h=>?_)
  conv=>whnf
  refine ⟨by kernel_rfl,?_⟩
  conv=>whnf
  refine ⟨by kernel_rfl,?_⟩
  conv=>whnf
  obtain ⟨l12DrawSources0,hb14,h⟩:=Option.bind_eq_some_iff.1 h;refine ⟨?_,?_⟩;rotate_left
  focus
   conv=>whnf
   refine ⟨by kernel_rfl,?_⟩
   conv=>whnf
   refine ⟨_,hb14,?_⟩
   conv=>whnf
   refine ⟨?_,?_⟩;rotate_left
   focus
    conv=>whnf
    refine ⟨trivial,?_⟩
   rotate_right
   focus
    conv=>whnf
    refine ⟨trivial,?_⟩
  rotate_right
  focus
   conv=>whnf
   refine ⟨by kernel_rfl,?_⟩
   conv=>whnf
   refine ⟨_,hb14,?_⟩
   conv=>whnf
   refine ⟨trivial,?_⟩
  all_goals
   conv=>whnf
   cases h;exact hK
 focus
  conv=>whnf
  refine ⟨by kernel_rfl,?_⟩
  conv=>whnf
  refine ⟨by kernel_rfl,?_⟩
  conv=>whnf
  obtain ⟨l12DrawSources0,hb15,h⟩:=Option.bind_eq_some_iff.1 h;refine ⟨?_,?_⟩;rotate_left
  focus
   conv=>whnf
   refine ⟨by kernel_rfl,?_⟩
   conv=>whnf
   refine ⟨_,hb15,?_⟩
   conv=>whnf
   refine ⟨?_,?_⟩;rotate_left
   focus
    conv=>whnf
    refine ⟨trivial,?_⟩
   rotate_right
   focus
    conv=>whnf
    refine ⟨trivial,?_⟩
  rotate_right
  focus
   conv=>whnf
   refine ⟨by kernel_rfl,?_⟩
   conv=>whnf
   refine ⟨_,hb15,?_⟩
   conv=>whnf
   refine ⟨trivial,?_⟩
  all_goals
   conv=>whnf
   cases h;exact hK
 focus
  conv=>whnf
  refine ⟨by kernel_rfl,?_⟩
  conv=>whnf
  refine ⟨by kernel_rfl,?_⟩
  conv=>whnf
  obtain ⟨l12DrawSources0,hb16,h⟩:=Option.bind_eq_some_iff.1 h;refine ⟨?_,?_⟩;rotate_left
  focus
   conv=>whnf
   refine ⟨by kernel_rfl,?_⟩
   conv=>whnf
   refine ⟨_,hb16,?_⟩
   conv=>whnf
   refine ⟨?_,?_⟩;rotate_left
   focus
    conv=>whnf
    refine ⟨trivial,?_⟩
   rotate_right
   focus
    conv=>whnf
    refine ⟨trivial,?_⟩
  rotate_right
  focus
   conv=>whnf
   refine ⟨by kernel_rfl,?_⟩
   conv=>whnf
   refine ⟨_,hb16,?_⟩
   conv=>whnf
   refine ⟨trivial,?_⟩
  all_goals
   conv=>whnf
   cases h;exact hK
 focus
  conv=>whnf
  refine ⟨by kernel_rfl,?_⟩
  conv=>whnf
  refine ⟨by kernel_rfl,?_⟩
  conv=>whnf
  obtain ⟨l12DrawSources0,hb17,h⟩:=Option.bind_eq_some_iff.1 h;refine ⟨?_,?_⟩;rotate_left
  focus
   conv=>whnf
   refine ⟨by kernel_rfl,?_⟩
   conv=>whnf
   refine ⟨_,hb17,?_⟩
   conv=>whnf
   refine ⟨?_,?_⟩;rotate_left
   focus
    conv=>whnf
    refine ⟨trivial,?_⟩
   rotate_right
   focus
    conv=>whnf
    refine ⟨trivial,?_⟩
  rotate_right
  focus
   conv=>whnf
   refine ⟨by kernel_rfl,?_⟩
   conv=>whnf
   refine ⟨_,hb17,?_⟩
   conv=>whnf
   refine ⟨trivial,?_⟩
  all_goals
   conv=>whnf
   cases h;exact hK
 conv=>whnf
 refine ZaJ h (λl09DrawBroken0 hb18 h=>?_)
 conv=>whnf
 refine ZaJ h (λIsBlock0 hb19 h=>?_)
 conv=>whnf
 refine Zs5 h (λh=>?_) (λh=>?_)
 conv=>whnf
 refine ZlD h (λh=>?_) (λh=>?_)
 conv=>whnf
 refine ZaJ h (λl01Next1 hb20 h=>?_)
 conv=>whnf
 refine ZlD h (λh=>?_) (λh=>?_)
 focus
  conv=>whnf
  refine ZaJ h (λl10Break0 hb21 h=>?_)
  conv=>whnf
  refine ⟨by kernel_rfl,?_⟩
  conv=>whnf
  refine ⟨by kernel_rfl,?_⟩
  conv=>whnf
  obtain ⟨l12DrawSources0,hb22,h⟩:=Option.bind_eq_some_iff.1 h;refine ⟨?_,?_⟩;rotate_left
  focus
   conv=>whnf
   refine ⟨by kernel_rfl,?_⟩
   conv=>whnf
   refine ⟨_,hb22,?_⟩
   conv=>whnf
   refine ⟨?_,?_⟩;rotate_left
   focus
    conv=>whnf
    refine ⟨trivial,?_⟩
   rotate_right
   focus
    conv=>whnf
    refine ⟨trivial,?_⟩
  rotate_right
  focus
   conv=>whnf
   refine ⟨by kernel_rfl,?_⟩
   conv=>whnf
   refine ⟨_,hb22,?_⟩
   conv=>whnf
   refine ⟨trivial,?_⟩
  all_goals
   conv=>whnf
   cases h;exact hK
 focus
  conv=>whnf
  refine ⟨by kernel_rfl,?_⟩
  conv=>whnf
  refine ⟨by kernel_rfl,?_⟩
  conv=>whnf
  obtain ⟨l12DrawSources0,hb23,h⟩:=Option.bind_eq_some_iff.1 h;refine ⟨?_,?_⟩;rotate_left
  focus
   conv=>whnf
   refine ⟨by kernel_rfl,?_⟩
   conv=>whnf
   refine ⟨_,hb23,?_⟩
   conv=>whnf
   refine ⟨?_,?_⟩;rotate_left
   focus
    conv=>whnf
    refine ⟨trivial,?_⟩
   rotate_right
   focus
    conv=>whnf
    refine ⟨trivial,?_⟩
  rotate_right
  focus
   conv=>whnf
   refine ⟨by kernel_rfl,?_⟩
   conv=>whnf
   refine ⟨_,hb23,?_⟩
   conv=>whnf
   refine ⟨trivial,?_⟩
  all_goals
   conv=>whnf
   cases h;exact hK
 focus
  conv=>whnf
  refine ⟨by kernel_rfl,?_⟩
  conv=>whnf
  refine ⟨by kernel_rfl,?_⟩
  conv=>whnf
  obtain ⟨l12DrawSources0,hb24,h⟩:=Option.bind_eq_some_iff.1 h;refine ⟨?_,?_⟩;rotate_left
  focus
   conv=>whnf
   refine ⟨by kernel_rfl,?_⟩
   conv=>whnf
   refine ⟨_,hb24,?_⟩
   conv=>whnf
   refine ⟨?_,?_⟩;rotate_left
   focus
    conv=>whnf
    refine ⟨trivial,?_⟩
   rotate_right
   focus
    conv=>whnf
    refine ⟨trivial,?_⟩
  rotate_right
  focus
   conv=>whnf
   refine ⟨by kernel_rfl,?_⟩
   conv=>whnf
   refine ⟨_,hb24,?_⟩
   conv=>whnf
   refine ⟨trivial,?_⟩
  all_goals
   conv=>whnf
   cases h;exact hK
 focus
  conv=>whnf
  refine ⟨by kernel_rfl,?_⟩
  conv=>whnf
  refine ⟨by kernel_rfl,?_⟩
  conv=>whnf
  obtain ⟨l12DrawSources0,hb25,h⟩:=Option.bind_eq_some_iff.1 h;refine ⟨?_,?_⟩;rotate_left
  focus
   conv=>whnf
   refine ⟨by kernel_rfl,?_⟩
   conv=>whnf
   refine ⟨_,hb25,?_⟩
   conv=>whnf
   refine ⟨?_,?_⟩;rotate_left
   focus
    conv=>whnf
    refine ⟨trivial,?_⟩
   rotate_right
   focus
    conv=>whnf
    refine ⟨trivial,?_⟩
  rotate_right
  focus
   conv=>whnf
   refine ⟨by kernel_rfl,?_⟩
   conv=>whnf
   refine ⟨_,hb25,?_⟩
   conv=>whnf
   refine ⟨trivial,?_⟩
  all_goals
   conv=>whnf
   cases h;exact hK
end Go.Proofs.YtgjjlgodlhhdoaaGreatDoor
