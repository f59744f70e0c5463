/-
  The functions keep their contracts, if what they call does. Printed by program.
-/
import Derived.Test.YtpkjbcbepmpddaaGreatDoorM
import Derived.KernelRfl
namespace Go.Proofs.YtpkjbcbepmpddaaGreatDoor
open Go Go.Sx
set_option maxRecDepth 100000
set_option maxHeartbeats 100000000
set_option linter.unusedVariables false
set_option linter.unusedSimpArgs false
structure Ws0:Prop where
 w183:Sq 201 c183
 w189:Sq 148 ZHn->Sq 205 ZIB
 w159:Sq 338 ZIk->Sq 339 ZIl->Sq 323 c159
 w150:Sq 371 ZIi
 w163:Sq 339 c162->Sq 342 ZIn
 w193:Sq 90 Zsp->Sq 295 c193
 w187:Sq 204 ZIA
 w171:Sq 236 ZHl->Sq 291 c171
 w179:Sq 145 ZFH
 w186:Sq 145 ZFH->Sq 203 ZIz
 w182:Sq 189 ZIv->Sq 145 ZFH->Sq 190 ZIx->Sq 143 c182
 w175:Sq 238 c175
 w144:Sq 376 c143->Sq 240 c141->Sq 368 ZIf
 w181:Sq 147 ZFZ->Sq 90 Zsp->Sq 239 ZIw->Sq 240 c141->Sq 190 ZIx
 w246:Sq 269 ZI6->Sq 218 ZI7
 w245:Sq 269 ZI6
 w212:Sq 299 c212
 w134:Sq 296 c130->Sq 297 ZIb->Sq 242 ZDF
 w205:Sq 169 c203->Sq 298 ZIJ->Sq 244 ZIK
 w149:Sq 366 c148->Sq 354 ZIh
 w146:Sq 368 ZIf->Sq 369 c145->Sq 367 c146
 w239:Sq 159 c194->Sq 158 ZI1
 w257:Sq 310 ZFJ
 w224:Sq 217 ZIT->Sq 152 ZIU
 w231:Sq 249 ZIW->Sq 152 ZIX
 w248:Sq 270 ZI8->Sq 152 ZI9
 w233:Sq 163 ZFI->Sq 206 c229->Sq 208 c232->Sq 151 c233
 w226:Sq 163 ZFI->Sq 152 ZIS->Sq 165 c222->Sq 166 ZIV->Sq 96 c226
 w136:Sq 353 ZId
 w142:Sq 247 ZHk
 w207:Sq 90 Zsp->Sq 246 ZIL
 w214:Sq 91 ZHp
 w131:Sq 337 c131
 w197:Sq 216 ZF1
 w137:Sq 147 ZFZ
 w191:Sq 145 ZFH->Sq 146 ZIy->Sq 147 ZFZ->Sq 148 ZHn->Sq 149 ZIC->Sq 92 ZHo
 w260:Sq 310 ZFJ->Sq 311 ZJh
 w242:Sq 212 ZI3->Sq 157 ZHq
 w243:Sq 158 ZI1->Sq 159 c194->Sq 160 Zmg->Sq 157 ZHq->Sq 95 ZI4
 w251:Sq 308 ZHr
 w236:Sq 154 ZIY->Sq 153 c236
 w261:Sq 272 ZF2->Sq 308 ZHr->Sq 309 ZHs->Sq 310 ZFJ->Sq 312 ZJg->Sq 311 ZJh->Sq 271 ZJi
 w208:Sq 216 ZF1->Sq 240 c141->Sq 246 ZIL->Sq 247 ZHk->Sq 199 c208
 w244:Sq 163 ZFI->Sq 167 ZI5
 w256:Sq 351 ZJe->Sq 331 ZJf
 w129:Sq 90 Zsp
 w292:Sq 39 ZJC->Sq 40 ZJI->Sq 41 ZJK->Sq 11 ZJL
 w282:Sq 170 ZJA->Sq 99 ZJB
 w297:Sq 173 ZDG->Sq 106 ZJQ
 w298:Sq 106 ZJQ->Sq 44 ZJR
 w295:Sq 98 ZHt->Sq 105 ZJO
 w274:Sq 274 ZJu
 w287:Sq 172 ZJG
 w286:Sq 101 ZJF
 w278:Sq 333 ZJw->Sq 314 ZJx
 w273:Sq 37 ZJr->Sq 38 ZJs->Sq 10 ZJt
 w290:Sq 173 ZDG->Sq 103 ZJJ
 w324:Sq 56 ZKf
 w306:Sq 225 ZJW->Sq 175 ZJX
 w317:Sq 112 ZDH->Sq 51 ZJ8
 w310:Sq 113 ZBK->Sq 110 ZJ1
 w322:Sq 53 ZKb->Sq 54 ZKc->Sq 15 ZKd
 w313:Sq 112 ZDH->Sq 48 ZJ4
 w22:Sq 117 c2->Sq 63 c22
 w14:Sq 116 c13->Sq 60 c14
 w12:Sq 59 c12
 w33:Sq 232 c32->Sq 188 c33
 w47:Sq 85 c46->Sq 32 c47
 w53:Sq 88 c53
 w51:Sq 141 c29->Sq 87 c51
 w49:Sq 142 c48->Sq 86 c49
 w50:Sq 86 c49->Sq 33 c50
 w29:Sq 141 c29
 w36:Sq 80 c35->Sq 29 c36
 w27:Sq 231 c27
 w30:Sq 141 c29->Sq 321 c30
 w31:Sq 321 c30->Sq 287 c31
 w43:Sq 141 c29->Sq 84 c43
 w162:Sq 357 ZIm->Sq 339 c162
 w148:Sq 375 ZIg->Sq 366 c148
 w133:Sq 328 ZIa->Sq 297 ZIb
 w161:Sq 358 c160->Sq 357 ZIm
 w200:Sq 194 ZIF->Sq 243 ZIH
 w172:Sq 291 c171->Sq 325 ZIr
 w222:Sq 165 c222
 w65:Sq 277 c58->Sq 181 c56->Sq 25 c57->Sq 278 c63->Sq 279 c64->Sq 228 c65
 w77:Sq 121 c74->Sq 122 c75->Sq 25 c57->Sq 78 c76->Sq 66 c77
 w66:Sq 228 c65->Sq 178 c66
 w85:Sq 65 c73->Sq 66 c77->Sq 67 c79->Sq 68 c70->Sq 69 c82->Sq 70 c84->Sq 24 c85
 w127:Sq 71 ZHZ->Sq 72 c90->Sq 74 c92->Sq 73 ZH8->Sq 26 c127
 w128:Sq 24 c85->Sq 25 c57->Sq 27 c97->Sq 28 c99->Sq 26 c127->Sq 6 ZH9
 w57:Sq 25 c57
 w112:Sq 318 ZH1
 w58:Sq 181 c56->Sq 25 c57->Sq 277 c58
 w62:Sq 334 c61->Sq 316 c62
 w86:Sq 68 c70->Sq 130 c86
 w88:Sq 132 c87->Sq 129 c88
 w101:Sq 65 c73->Sq 72 c90->Sq 183 ZHW->Sq 126 ZHe
 w93:Sq 68 c70->Sq 75 c93
 w97:Sq 72 c90->Sq 74 c92->Sq 75 c93->Sq 76 c96->Sq 77 c91->Sq 27 c97
 w119:Sq 280 ZHh->Sq 281 ZHi->Sq 283 ZHj->Sq 282 c117->Sq 285 ZH2->Sq 284 ZFG->Sq 229 c119
 w118:Sq 285 ZH2
 w107:Sq 133 c107
 w83:Sq 125 c83
 w74:Sq 181 c56->Sq 25 c57->Sq 121 c74
 w80:Sq 68 c70->Sq 182 c80
 w81:Sq 182 c80->Sq 25 c57->Sq 124 c81
set_option maxHeartbeats 100000000 in
theorem ws0:Ws0:=by
 refine ⟨(Ze Zq Zi mixed {} Tryz.func201 (hvc:=?_)),
 (λq0=>Ze Zq (Zb q0 Zi) mixed {loops:=[(0,[.reg 8 (.dat Iq),.ent 3 (nat_lit 2) (.flat ZBD.ety)])],draws:=[(1,[],.u 0 7 (.alt 7 (.a [8,9] (.op 10 .done)) (.a [8,7,9] (.op 10 .done)))),(6,[],.u 0 22 (.d 22))]} Tryz.func205 (hvc:=?_)),
 (λq1 q0=>Ze Zq (Zb q1 (Zb q0 Zi)) mixed {loops:=[(0,[.reg 8 (.dat Iq)])]} Tryz.func323 (hvc:=?_)),
 (Ze Zq Zi mixed {} Tryz.func371 (hvc:=?_)),
 (λq0=>Ze Zq (Zb q0 Zi) mixed {} Tryz.func342 (hvc:=?_)),
 (λq0=>Ze Zq (Zb q0 Zi) mixed {} Tryz.func295 (hvc:=?_)),
 (Ze Zq Zi mixed {draws:=[(3,[],.u 0 18 .done)]} Tryz.func204 (hvc:=?_)),
 (λq0=>Ze Zq (Zb q0 Zi) mixed {} Tryz.func291 (hvc:=?_)),
 (Ze Zq Zi mixed {loops:=[(0,[.reg 3 (.own (.ol 256 (.flat (Zor)))),.reg 13 (.dat Iq)]),(2,[.reg 3 (.own (.ol 256 (.flat (Zor)))),.reg 21 (.dat Iq)]),(4,[.reg 3 (.own (.ol 256 (.flat (Zor)))),.reg 44 (.dat Iq)])]} Tryz.func145 (hvc:=?_)),
 (λq0=>Ze Zq (Zb q0 Zi) mixed {loops:=[(0,[.reg 5 (.own (.ol 2 (.flat Iq))),.reg 11 (.dat Iq)])]} Tryz.func203 (hvc:=?_)),
 (λq1 q0 q2=>Ze Zq (Zb q1 (Zb q0 (Zb q2 Zi))) mixed {loops:=[(0,[.reg 32 (.dat Iq),.ent 1 (nat_lit 2) (.flat ZBD.ety)]),(2,[.reg 50 (.dat Iq)])],draws:=[(13,[],.u 0 5 (.alt 5 (.op 6 .done) .done))]} Tryz.func143 (hvc:=?_)),
 (Ze Zq Zi mixed {} Tryz.func238 (hvc:=?_)),
 (λq1 q0=>Ze Zq (Zb q1 (Zb q0 Zi)) mixed {} Tryz.func368 (hvc:=?_)),
 (λq0 q3 q1 q2=>Ze Zq (Zb q0 (Zb q3 (Zb q1 (Zb q2 Zi)))) mixed {} Tryz.func190 (hvc:=?_)),
 (λq0=>Ze Zq (Zb q0 Zi) mixed {draws:=[(2,[],.o [0,1,2,5] (.alt 3 (.alt 4 (.alt 6 (.o [7,8] (.alt 9 (.o [10,11] (.d 12)) .done)) .done) (.alt 6 (.o [7,8] (.alt 4 (.alt 9 (.o [10,11] (.d 12)) .done) (.a [9,4] (.o [10,11] (.d 12))))) .done)) (.alt 4 (.alt 3 (.alt 6 (.o [7,8] (.alt 9 (.o [10,11] (.d 12)) .done)) .done) (.a [6,3] (.o [7,8] (.alt 9 (.o [10,11] (.d 12)) .done)))) (.alt 6 (.alt 3 (.o [7,8] (.alt 4 (.alt 9 (.o [10,11] (.d 12)) .done) (.a [9,4] (.o [10,11] (.d 12))))) (.a [4,3] (.o [7,8] (.alt 9 (.o [10,11] (.d 12)) .done)))) .done)))),(3,[],.u 0 7 (.u 8 5 (.a [7,13] (.o [14,15] (.alt 16 (.o [17,18] (.d 19)) .done)))))]} Tryz.func218 (hvc:=?_)),
 (Ze Zq Zi mixed {} Tryz.func269 (hvc:=?_)),
 (Ze Zq Zi mixed {} Tryz.func299 (hvc:=?_)),
 (λq1 q0=>Ze Zq (Zb q1 (Zb q0 Zi)) mixed {loops:=[(0,[.reg 7 (.dat Iq)])]} Tryz.func242 (hvc:=?_)),
 (λq0 q1=>Ze Zq (Zb q0 (Zb q1 Zi)) mixed {} Tryz.func244 (hvc:=?_)),
 (λq0=>Ze Zq (Zb q0 Zi) mixed {} Tryz.func354 (hvc:=?_)),
 (λq1 q0=>Ze Zq (Zb q1 (Zb q0 Zi)) mixed {} Tryz.func367 (hvc:=?_)),
 (λq0=>Ze Zq (Zb q0 Zi) mixed {loops:=[(0,[.reg 7 (.own (.ol 162 (.flat (Qn)))),.reg 19 (.dat Iq)])],draws:=[(1,[],.u 0 6 (.alt 6 (.alt 7 (.a [8,9,10] .done) (.a [8,7,9,10] .done)) (.alt 7 (.alt 6 (.a [8,9,10] .done) (.a [8,6,9,10] .done)) (.alt 8 (.alt 6 (.a [7,9,10] .done) (.a [7,6,9,10] .done)) .done))))]} Tryz.func158 (hvc:=?_)),
 (Ze Zq Zi mixed {draws:=[(1,[],.u 0 8 .done)]} Tryz.func310 (hvc:=?_)),
 (λq0=>Ze Zq (Zb q0 Zi) mixed {loops:=[(0,[.reg 5 (.own (.ol 2 (.flat Iq))),.reg 16 (.dat Iq)])]} Tryz.func152 (hvc:=?_)),
 (λq0=>Ze Zq (Zb q0 Zi) mixed {loops:=[(0,[.reg 5 (.own (.ol 2 (.flat Iq))),.reg 16 (.dat Iq)])]} Tryz.func152 (hvc:=?_)),
 (λq0=>Ze Zq (Zb q0 Zi) mixed {loops:=[(0,[.reg 5 (.own (.ol 2 (.flat Iq))),.reg 16 (.dat Iq)])]} Tryz.func152 (hvc:=?_)),
 (λq2 q0 q1=>Ze Xz (Zb q2 (Zb q0 (Zb q1 Zi))) mixed {loops:=[(0,[.reg 4 (.own (.ol 41 (.ol 4 (.flat (.bool))))),.reg 19 (.dat Iq)]),(2,[.reg 7 (.own (.ol 84 (.ol 2 (.flat Iq)))),.reg 33 (.dat Iq),.ent 0 (nat_lit 41) (Dp.ol (4:Go.TypeId) (Dp.flat Ty.bool)),.ent 1 (nat_lit 4) (.flat Zw8.ety)]),(4,[.reg 9 (.own (.ol 2 (.flat Iq))),.reg 41 (.dat Iq),.ent 0 (nat_lit 41) (Dp.ol (4:Go.TypeId) (Dp.flat Ty.bool))]),(6,[.reg 76 (.dat Iq),.ent 1 (nat_lit 4) (.flat Zw8.ety)])]} Tryz.func151 (hvc:=?_)),
 (λq2 q0 q1 q3=>Ze Zq (Zb q2 (Zb q0 (Zb q1 (Zb q3 Zi)))) mixed {loops:=[(0,[.reg 20 (.dat Iq),.ent 0 (nat_lit 3) (.flat Zwb.ety)]),(2,[.reg 7 (.own (.ol 2 (.flat Iq))),.reg 43 (.dat Iq),.ent 0 (nat_lit 3) (.flat Zwb.ety)]),(4,[.reg 60 (.dat Iq),.ent 0 (nat_lit 3) (.flat Zwb.ety)])]} Tryz.func96 (hvc:=?_)),
 (Ze Zq Zi mixed {} Tryz.func353 (hvc:=?_)),
 (Ze Zq Zi mixed {loops:=[(0,[.reg 3 (.dat Iq)])],draws:=[(4,[],.u 0 10 .done)]} Tryz.func247 (hvc:=?_)),
 (λq0=>Ze Zq (Zb q0 Zi) mixed {} Tryz.func246 (hvc:=?_)),
 (Ze Zq Zi mixed {} Tryz.func91 (hvc:=?_)),
 (Ze Zq Zi mixed {} Tryz.func337 (hvc:=?_)),
 (Ze Zq Zi mixed {} Tryz.func216 (hvc:=?_)),
 (Ze Zq Zi mixed {} Tryz.func147 (hvc:=?_)),
 (λq3 q1 q4 q2 q0=>Ze Xz (Zb q3 (Zb q1 (Zb q4 (Zb q2 (Zb q0 Zi))))) mixed {loops:=[(0,[.reg 4 (.dat Iq),.reg 25 (.dat Iq),.cello 1020 6 (.ol 154 (.flat (Za2)))]),(2,[.reg 60 (.dat Iq),.ent 4 (nat_lit 2) (.flat ZBD.ety),.ent 5 (nat_lit 84) (Dp.ol (2:Go.TypeId) (Dp.flat (Ty.int IntKind.i64)))]),(4,[.reg 88 (.dat Iq),.cello 1020 7 (.ol 2 (.flat Iq)),.cello 1020 8 (.ol 84 (.ol 2 (.flat Iq))),.cello 1020 6 (.ol (nat_lit 154) (.flat Za2)),.ent 5 (nat_lit 84) (Dp.ol (2:Go.TypeId) (Dp.flat (Ty.int IntKind.i64)))]),(6,[.reg 122 (.dat Iq),.cello 1020 6 (.ol (nat_lit 154) (.flat Za2))]),(8,[.reg 127 (.dat Iq),.cello 1020 6 (.ol (nat_lit 154) (.flat Za2))])],draws:=[(1,[],.o [0,1,2] (.alt 3 (.op 4 (.alt 5 (.op 6 .done) .done)) .done)),(6,[],.u 0 8 (.a [8,9] (.o [10,11] (.d 12)))),(16,[],.o [0,1] (.u 3 6 (.ld 2 (.a [9,10] (.op 11 (.d 12)))))),(21,[],.u 0 7 (.alt 7 (.o [8,9] (.a [10,11] (.o [12,13] (.d 14)))) .done)),(22,[],.u 0 7 (.a [7,8,9] (.o [10,11] (.d 12)))),(29,[],.u 0 18 (.a [18,19] (.o [20,21] (.d 22))))]} Tryz.func92 (hvc:=?_)),
 (λq0=>Ze Zq (Zb q0 Zi) mixed {} Tryz.func311 (hvc:=?_)),
 (λq0=>Ze Zq (Zb q0 Zi) mixed {} Tryz.func157 (hvc:=?_)),
 (λq0 q3 q2 q1=>Ze Zq (Zb q0 (Zb q3 (Zb q2 (ZwD (ZAg Xz (Zb q1 Zi) mixed {draws:=[(0,[],.u 0 5 (.alt 5 (.o [6,7,8] (.a [9,10] (.op 11 .done))) (.a [9,5] (.o [6,7,8] (.alt 10 (.op 11 .done) .done)))))]} Tryz.func156 (by kernel_rfl) (by kernel_rfl)) Zi)))) mixed {loops:=[(0,[.reg 14 (.dat Iq),.cello 1 0 (.ol 162 (.flat (Qn)))]),(2,[.reg 27 (.dat Iq),.cello 1 0 (.ol 162 (.flat (Qn)))])]} Tryz.func95 (hvc:=?_)),
 (Ze Zq Zi mixed {draws:=[(1,[],.u 0 18 (.a [18,19] .done)),(2,[],.u 0 15 (.d 15))]} Tryz.func308 (hvc:=?_)),
 (λq0=>Ze Zq (Zb q0 Zi) mixed {} Tryz.func153 (hvc:=?_)),
 (λq2 q3 q1 q4 q0 q5=>Ze Zq (Zb q2 (Zb q3 (Zb q1 (Zb q4 (Zb q0 (Zb q5 Zi)))))) mixed {draws:=[(5,[],.o [0,1,4,5,6] (.u 9 9 (.alt 2 (.o [3,7,8] (.alt 18 (.op 19 .done) .done)) .done))),(6,[],.u 0 12 (.alt 12 (.op 13 .done) .done))]} Tryz.func271 (hvc:=?_)),
 (λq0 q2 q3 q1=>Ze Zq (Zb q0 (Zb q2 (Zb q3 (Zb q1 Zi)))) mixed {loops:=[(0,[.reg 15 (.dat Iq)])]} Tryz.func199 (hvc:=?_)),
 (λq0=>Ze Zq (Zb q0 Zi) mixed {draws:=[(2,[],.o [0,2,4] (.alt 1 (.alt 3 (.alt 5 (.op 6 (.d 7)) .done) (.a [5,3] (.op 6 (.d 7)))) (.alt 3 (.alt 1 (.alt 5 (.op 6 (.d 7)) .done) (.a [5,1] (.op 6 (.d 7)))) (.alt 5 (.alt 1 (.alt 3 (.op 6 (.d 7)) .done) (.a [3,1] (.op 6 (.d 7)))) .done))))]} Tryz.func167 (hvc:=?_)),
 (λq0=>Ze Zq (Zb q0 Zi) mixed {draws:=[(1,[],.u 0 13 .done),(5,[],.u 0 18 (.u 19 10 (.alt 18 (.o [29,30] .done) .done)))]} Tryz.func331 (hvc:=?_)),
 (Ze Zq Zi mixed {} Tryz.func90 (hvc:=?_)),
 (λq0 q1 q2=>Ze Zq (Zb q0 (Zb q1 (Zb q2 Zi))) mixed {} Tryz.func11 (hvc:=?_)),
 (λq0=>Ze Zq (Zb q0 Zi) mixed {loops:=[(0,[.reg 5 (.dat Iq)])],draws:=[(6,[],.u 0 8 (.alt 8 (.op 9 .done) .done))]} Tryz.func99 (hvc:=?_)),
 (λq0=>Ze Zq (Zb q0 Zi) mixed {} Tryz.func106 (hvc:=?_)),
 (λq0=>Ze Zq (Zb q0 Zi) mixed {loops:=[(0,[.reg 5 (.dat Iq)])],draws:=[(6,[],.u 0 8 (.alt 8 (.op 9 .done) .done))]} Tryz.func44 (hvc:=?_)),
 (λq0=>Ze Zq (Zb q0 Zi) mixed {} Tryz.func105 (hvc:=?_)),
 (Ze Zq Zi mixed {} Tryz.func274 (hvc:=?_)),
 (Ze Zq Zi mixed {} Tryz.func172 (hvc:=?_)),
 (Ze Zq Zi mixed {loops:=[(0,[.reg 5 (.dat Iq)])],draws:=[(6,[],.u 0 9 .done)]} Tryz.func101 (hvc:=?_)),
 (λq0=>Ze Zq (Zb q0 Zi) mixed {loops:=[(0,[.reg 5 (.dat Iq)])],draws:=[(6,[],.u 0 8 (.alt 8 (.op 9 .done) .done))]} Tryz.func314 (hvc:=?_)),
 (λq0 q1=>Ze Zq (Zb q0 (Zb q1 Zi)) mixed {} Tryz.func10 (hvc:=?_)),
 (λq0=>Ze Zq (Zb q0 Zi) mixed {} Tryz.func103 (hvc:=?_)),
 (Ze Zq Zi mixed {loops:=[(0,[.reg 1 (.dat Iq),.reg 5 (.dat Iq)])]} Tryz.func56 (hvc:=?_)),
 (λq0=>Ze Xz (Zb q0 Zi) mixed {loops:=[(0,[.reg 1 (.dat Iq),.reg 5 (.dat Iq),.ent 0 (nat_lit 233) (Dp.pair (Dp.flat (Ty.int IntKind.i64)) (Dp.pair (Dp.flat (Ty.int IntKind.i64)) (Dp.pair (Dp.flat (Ty.int IntKind.i64)) (Dp.pair (Dp.flat (Ty.int IntKind.i64)) (Dp.pair (Dp.ol (373:Go.TypeId) Zka) (Dp.pair (Dp.ol (373:Go.TypeId) Zka) (Dp.flat Ty.unit)))))))])]} Tryz.func175 (hvc:=?_)),
 (λq0=>Ze Xz (Zb q0 Zi) mixed {loops:=[(0,[.reg 1 (.dat Iq),.reg 5 (.dat Iq),.ent 0 (nat_lit 141) (Dp.pair (Dp.flat (Ty.int IntKind.i64)) (Dp.pair (Dp.flat (Ty.int IntKind.i64)) (Dp.pair (Dp.ol (2:Go.TypeId) (Dp.flat (Ty.int IntKind.i64))) (Dp.pair (Dp.ol (2:Go.TypeId) (Dp.flat (Ty.int IntKind.i64))) (Dp.pair (Dp.ol (2:Go.TypeId) (Dp.flat (Ty.int IntKind.i64))) (Dp.flat Ty.unit))))))])]} Tryz.func51 (hvc:=?_)),
 (λq0=>Ze Xz (Zb q0 Zi) mixed {loops:=[(0,[.reg 1 (.dat Iq),.reg 5 (.dat Iq),.ent 0 (nat_lit 9) (.flat Ty.str)])]} Tryz.func110 (hvc:=?_)),
 (λq0 q1=>Ze Xz (Zb q0 (Zb q1 Zi)) mixed {} Tryz.func15 (hvc:=?_)),
 (λq0=>Ze Xz (Zb q0 Zi) mixed {loops:=[(0,[.reg 1 (.dat Iq),.reg 5 (.dat Iq),.ent 0 (nat_lit 170) (Dp.pair (Dp.ol (2:Go.TypeId) (Dp.flat (Ty.int IntKind.i64))) (Dp.pair (Dp.ol (2:Go.TypeId) (Dp.flat (Ty.int IntKind.i64))) (Dp.pair (Dp.ol (2:Go.TypeId) (Dp.flat (Ty.int IntKind.i64))) (Dp.pair (Dp.ol (2:Go.TypeId) (Dp.flat (Ty.int IntKind.i64))) (Dp.flat Ty.unit)))))])]} Tryz.func48 (hvc:=?_)),
 (λq0=>Ze Zq (Zb q0 Zi) mixed {} Tryz.func63 (hvc:=?_)),
 (λq0=>Ze Zq (Zb q0 Zi) mixed {loops:=[(0,[.reg 1 (.dat Iq),.reg 5 (.dat Iq)])]} Tryz.func60 (hvc:=?_)),
 (Ze Zq Zi mixed {loops:=[(0,[.reg 1 (.dat Iq),.reg 5 (.dat Iq)])]} Tryz.func59 (hvc:=?_)),
 (λq0=>Ze Xz (Zb q0 Zi) mixed {loops:=[(0,[.reg 4 (.dat Iq),.ent 0 (nat_lit 233) ZBB])]} Tryz.func188 (hvc:=?_)),
 (λq0=>Ze Zq (Zb q0 Zi) mixed {loops:=[(0,[.reg 4 (.dat Iq),.ent 0 (nat_lit 137) (.flat ZHM.ety)])]} Tryz.func32 (hvc:=?_)),
 (Ze Zq Zi mixed {} Tryz.func88 (hvc:=?_)),
 (λq0=>Ze Zq (Zb q0 Zi) mixed {} Tryz.func87 (hvc:=?_)),
 (λq0=>Ze Zq (Zb q0 Zi) mixed {} Tryz.func86 (hvc:=?_)),
 (λq0=>Ze Zq (Zb q0 Zi) mixed {loops:=[(0,[.reg 4 (.dat Iq),.ent 0 (nat_lit 165) (.flat ZHN.ety)])]} Tryz.func33 (hvc:=?_)),
 (Ze Zq Zi mixed {loops:=[(0,[.reg 4 (.dat Iq),.ent 0 (nat_lit 2) (.flat ZBD.ety)])]} Tryz.func141 (hvc:=?_)),
 (λq0=>Ze Xz (Zb q0 Zi) mixed {} Tryz.func29 (hvc:=?_)),
 (Ze Zq Zi mixed {} Tryz.func231 (hvc:=?_)),
 (λq0=>Ze Zq (Zb q0 Zi) mixed {} Tryz.func321 (hvc:=?_)),
 (λq0=>Ze Xz (Zb q0 Zi) mixed {loops:=[(0,[.reg 4 (.dat Iq),.ent 0 (nat_lit 373) Zka])]} Tryz.func287 (hvc:=?_)),
 (λq0=>Ze Zq (Zb q0 Zi) mixed {} Tryz.func84 (hvc:=?_)),
 (λq0=>Ze Zq (Zb q0 Zi) mixed {} Tryz.func339 (hvc:=?_)),
 (λq0=>Ze Zq (Zb q0 Zi) mixed {} Tryz.func366 (hvc:=?_)),
 (λq0=>Ze Zq (Zb q0 Zi) mixed {} Tryz.func297 (hvc:=?_)),
 (λq0=>Ze Zq (Zb q0 Zi) mixed {loops:=[(0,[.reg 8 (.dat Iq)])]} Tryz.func357 (hvc:=?_)),
 (λq0=>Ze Zq (Zb q0 Zi) mixed {loops:=[(0,[.reg 8 (.dat Iq)])]} Tryz.func243 (hvc:=?_)),
 (λq0=>Ze Zq (Zb q0 Zi) mixed {loops:=[(0,[.reg 8 (.dat Iq)])]} Tryz.func325 (hvc:=?_)),
 (Ze Zq Zi mixed {loops:=[(0,[.reg 8 (.dat Iq)])]} Tryz.func165 (hvc:=?_)),
 (λq1 q2 q4 q3 q0=>Ze Zq (Zb q1 (Zb q2 (Zb q4 (Zb q3 (Zb q0 Zi))))) mixed {loops:=[(0,[.reg 5 (.dat Iq)]),(2,[.reg 7 (.dat Iq)]),(5,[.reg 9 (.dat Iq)])],draws:=[(13,[],.u 0 31 .done),(25,[],.u 0 26 .done)]} Tryz.func228 (hvc:=?_)),
 (λq1 q0 q2 q3=>Ze Zq (Zb q1 (Zb q0 (Zb q2 (Zb q3 Zi)))) mixed {loops:=[(0,[.reg 3 (.dat Iq)]),(2,[.reg 5 (.dat Iq)])],draws:=[(10,[],.u 0 8 .done)]} Tryz.func66 (hvc:=?_)),
 (λq0=>Ze Zq (Zb q0 Zi) mixed {loops:=[(0,[.reg 3 (.dat Iq)]),(2,[.reg 4 (.dat Iq)])],draws:=[(9,[],.u 0 13 .done)]} Tryz.func178 (hvc:=?_)),
 (λq5 q4 q2 q3 q1 q0=>Ze Zq (Zb q5 (Zb q4 (Zb q2 (Zb q3 (Zb q1 (Zb q0 Zi)))))) mixed {loops:=[(0,[.reg 5 (.dat Iq)]),(2,[.reg 6 (.dat Iq)])],draws:=[(6,[],.u 0 8 (.alt 8 (.o [9,10] .done) .done)),(11,[],.u 0 6 (.alt 6 (.op 7 .done) .done))]} Tryz.func24 (hvc:=?_)),
 (λq1 q0 q2 q3=>Ze Zq (Zb q1 (Zb q0 (Zb q2 (Zb q3 Zi)))) mixed {draws:=[(5,[],.u 0 5 (.o [6,7] (.alt 5 (.alt 8 (.o [9,10,11] (.a [12,13] (.op 14 .done))) (.a [12,8] (.o [9,10,11] (.alt 13 (.op 14 .done) .done)))) (.a [12,5,8] (.o [9,10,11] (.alt 13 (.op 14 .done) .done))))))]} Tryz.func26 (hvc:=?_)),
 (λq3 q4 q2 q1 q0=>Ze Zq (Zb q3 (Zb q4 (Zb q2 (Zb q1 (Zb q0 Zi))))) mixed {draws:=[(5,[],.u 0 7 (.op 8 (.a [7,9,10] (.o [11,12] (.alt 13 (.op 14 .done) .done)))))]} Tryz.func6 (hvc:=?_)),
 (Ze Zq Zi mixed {} Tryz.func25 (hvc:=?_)),
 (Ze Zq Zi mixed {loops:=[(0,[.reg 8 (.dat Iq)])],draws:=[(10,[],.u 0 17 .done)]} Tryz.func318 (hvc:=?_)),
 (λq0 q1=>Ze Zq (Zb q0 (Zb q1 Zi)) mixed {loops:=[(0,[.reg 5 (.dat Iq),.reg 6 (.dat Iq)]),(2,[.reg 8 (.dat Iq)])],draws:=[(12,[],.u 0 9 .done)]} Tryz.func277 (hvc:=?_)),
 (λq0=>Ze Zq (Zb q0 Zi) mixed {loops:=[(0,[.reg 5 (.dat Iq)])]} Tryz.func316 (hvc:=?_)),
 (λq0=>Ze Zq (Zb q0 Zi) mixed {loops:=[(0,[.reg 8 (.dat Iq)])]} Tryz.func130 (hvc:=?_)),
 (λq0=>Ze Xz (Zb q0 Zi) mixed {loops:=[(0,[.reg 0 (.own (.ol 154 (.flat (Za2)))),.reg 11 (.dat Iq)]),(2,[.reg 0 (.own (.ol 154 (.flat (Za2)))),.reg 12 (.dat Iq)])]} Tryz.func129 (hvc:=?_)),
 (λq2 q1 q0=>Ze Zq (Zb q2 (Zb q1 (Zb q0 Zi))) mixed {} Tryz.func126 (hvc:=?_)),
 (λq0=>Ze Zq (Zb q0 Zi) mixed {} Tryz.func75 (hvc:=?_)),
 (λq0 q3 q1 q2 q4=>Ze Zq (Zb q0 (Zb q3 (Zb q1 (Zb q2 (Zb q4 Zi))))) mixed {loops:=[(0,[.ent 3 (nat_lit 4) (.flat Ty.bool)]),(4,[.reg 9 (.own (.ol 2 (.flat Iq))),.reg 10 (.dat Iq)]),(2,[.reg 7 (.dat Iq),.reg 8 (.dat Iq),.ent 4 (nat_lit 84) (Dp.ol (2:Go.TypeId) (Dp.flat (Ty.int IntKind.i64)))])],draws:=[(10,[],.u 0 21 (.alt 21 (.u 22 10 (.alt 32 (.op 33 .done) .done)) .done))]} Tryz.func27 (hvc:=?_)),
 (λq3 q2 q4 q0 q1 q5=>Ze Zq (Zb q3 (Zb q2 (Zb q4 (Zb q0 (Zb q1 (Zb q5 Zi)))))) mixed {draws:=[(5,[],.o [0,1,2,4,6,7] (.a [3,5] (.o [8,9,10] .done)))]} Tryz.func229 (hvc:=?_)),
 (Ze Zq Zi mixed {} Tryz.func285 (hvc:=?_)),
 (Ze Zq Zi mixed {draws:=[(1,[],.o [0,2,4] (.alt 1 (.alt 3 (.alt 5 (.op 6 (.d 7)) .done) (.a [5,3] (.op 6 (.d 7)))) (.alt 3 (.alt 1 (.alt 5 (.op 6 (.d 7)) .done) (.a [5,1] (.op 6 (.d 7)))) (.alt 5 (.alt 1 (.alt 3 (.op 6 (.d 7)) .done) (.a [3,1] (.op 6 (.d 7)))) .done))))]} Tryz.func133 (hvc:=?_)),
 (Ze Zq Zi mixed {} Tryz.func125 (hvc:=?_)),
 (λq0 q1=>Ze Zq (Zb q0 (Zb q1 Zi)) mixed {} Tryz.func121 (hvc:=?_)),
 (λq0=>Ze Zq (Zb q0 Zi) mixed {} Tryz.func182 (hvc:=?_)),
 (λq0 q1=>Ze Zq (Zb q0 (Zb q1 Zi)) mixed {loops:=[(0,[.reg 7 (.dat Iq)])],draws:=[(4,[],.u 0 5 (.alt 5 (.op 6 (.alt 7 (.u 8 20 .done) .done)) .done))]} Tryz.func124 (hvc:=?_))⟩
 all_goals
  intro a;repeat rcases a with ⟨_,a⟩
  rintro K ⟨r,h,hK⟩;repeat'
    conv=>whnf
    first
    | with_reducible refine ZDU ?_
    | with_reducible refine Zov (by assumption) (by assumption) (by assumption) ?_
    | with_reducible refine Zsm (by assumption) ?_
    | with_reducible refine Zoz (by assumption) ?_
    | (with_reducible refine shD ?_);first | refine ZtH h (λh=>?_) (λh=>?_) | refine ZCX h (λh=>?_) (λh=>?_)
    | (with_reducible refine ZEw ?_);first | refine ZDr ?_ | refine Zs6 ?_
    | (with_reducible refine ZKz ?_);first | refine Zyt h (λh=>?_) (λh=>?_) | refine ZFA h (λh=>?_) (λh=>?_)
    | (with_reducible refine ZEv ?_);(refine ⟨λhd=>?_,?_⟩)<;>try subst hd
    | (with_reducible refine ZKB ?_);first | with_reducible refine Zj5 h (λx hb h=>?_) | refine Zoz (by assumption) ?_ | with_reducible refine pG h (λhp h=>?_) | with_reducible refine pA h (λx ha hb hx h=>?_) | with_reducible refine pB h (λx hb h=>?_) | refine Zj5 h (λx hb h=>?_)
    | (with_reducible refine ZKy ?_);first | with_reducible refine vAt h (λx ha hb hx h=>?_) | refine Zov (by assumption) (by assumption) (by assumption) ?_ | with_reducible refine pG h (λhp h=>?_) | with_reducible refine pA h (λx ha hb hx h=>?_) | with_reducible refine pB h (λx hb h=>?_) | refine vAt h (λx ha hb hx h=>?_)
    | (with_reducible refine ZEu ?_);first | with_reducible refine Zzj h (λx hb h=>?_) | refine Zsm (by assumption) ?_ | with_reducible refine pG h (λhp h=>?_) | with_reducible refine pA h (λx ha hb hx h=>?_) | with_reducible refine pB h (λx hb h=>?_) | refine Zzj h (λx hb h=>?_)
    | with_reducible refine ZKA ?_
    | (with_reducible refine ZA5 ?_);refine ZBo h hK ?_;clear h hK;intro I μ v r h hK;(repeat rcases v with ⟨_,v⟩);(try dsimp only at h)
    | with_reducible refine ⟨by assumption,?_⟩
    | with_reducible refine orL ?_
    | with_reducible refine .inr ?_
    | (with_reducible refine ZEx ?_);first | refine ⟨?_,True.intro⟩ | refine ⟨?_,?_⟩
    | refine ⟨by kernel_rfl,?_⟩
    | refine ⟨by decide,?_⟩
    | with_reducible refine ZFO h (λhp h=>?_)
    | intro fp
    | exact trivial
    | with_reducible exact ZDR h
    | (refine pS h (λe=>?_));subst e;(repeat (first | exact hK | exact ⟨⟨rfl,rfl⟩,hK.1 _ rfl⟩ | (refine pR hK (λe hK=>?_));subst e));done
    | refine ZFO h (λhp h=>?_)
    | refine ⟨by assumption,?_⟩
    | with_reducible refine pG h (λhp h=>?_) | with_reducible refine pA h (λx ha hb hx h=>?_) | with_reducible refine pB h (λx hb h=>?_)
    | refine pG h (λhp h=>?_)
    | fail
theorem Zs7 (rec0:(List Zc)->Int->Option ZdR) (hrec:Sq 159 (ZfP rec0)):Sq 159 (ZfP (ZbB rec0)):=by
 refine Ze Zq (Zb hrec Zi) mixed {} (fn:=Tryz.f159) Tryz.func159 (by kernel_rfl) (by kernel_rfl) ?_;rintro ⟨list0,k0,⟨⟩⟩ K ⟨r,h,hK⟩
 change ZbB rec0 list0 k0=some r at h
 unfold ZbB at h
 conv=>whnf
 refine vAt h (λx0 he0a he0b he0x h=>?_)
 conv=>whnf
 refine ZtH h (λh=>?_) (λh=>?_)
 conv=>whnf
 cases h;exact hK
 conv=>whnf
 refine Zj5 h (λr0 hb1 h=>?_)
 conv=>whnf
 refine ZtH h (λh=>?_) (λh=>?_)
 conv=>whnf
 refine ⟨by decide,?_⟩
 conv=>whnf
 refine Zyt h (λh=>?_) (λh=>?_)
 conv=>whnf
 cases h;exact hK
 conv=>whnf
 cases h;exact hK
 conv=>whnf
 refine Zyt h (λh=>?_) (λh=>?_)
 conv=>whnf
 cases h;exact hK
 conv=>whnf
 cases h;exact hK
theorem ZO4:Sq 159 c194:=by
 have hn:∀ n,Sq 159 (ZfP (Zbk n)):=by
  intro n;induction n with
  | zero =>
  refine Ze Zq Zi mixed {} (fn:=Tryz.f159) Tryz.func159 (by kernel_rfl) (by kernel_rfl) ?_;rintro ⟨list0,k0,⟨⟩⟩ K ⟨r,h,hK⟩;cases h
  | succ n ih=>exact Zs7 _ ih
 refine ⟨(hn 0).1,?_⟩;rintro w S vs ⟨list0,k0,⟨⟩⟩ fp K h1 h0 h2 h3 h4 ⟨r,h,hK⟩;obtain ⟨n,hr⟩:=ZvM h;exact (hn n).2 w S vs _ fp K h1 h0 h2 h3 h4 ⟨r,hr,hK⟩
theorem ZO5:Sq 209 c234:=by
 refine Ze Zq Zi mixed {loops:=[(0,[.reg 8 (.dat Iq)])]} (fn:=Tryz.f209) Tryz.func209 (by kernel_rfl) (by kernel_rfl) ?_;rintro ⟨s0,v0,⟨⟩⟩ K ⟨r,h,hK⟩
 change XP s0 v0=some r at h
 unfold XP at h
 conv=>whnf
 refine ZG6 h ?_;rintro I0 μ0 ⟨v1,⟨⟩⟩ zs0 h hI0 hR0
 change Xu s0 v0 v1=some zs0 at h
 unfold Xu at h
 conv=>whnf
 refine ZtH h (λh=>?_) (λh=>?_)
 conv=>whnf
 refine vAt h (λx0 he1a he1b he1x h=>?_)
 conv=>whnf
 refine ZtH h (λh=>?_) (λh=>?_)
 conv=>whnf
 cases h;obtain rfl:=hR0 _ rfl;exact hK
 conv=>whnf
 cases h;exact ⟨⟨rfl,rfl⟩,hI0 _ rfl⟩
 conv=>whnf
 cases h;obtain rfl:=hR0 _ rfl;exact hK
end Go.Proofs.YtpkjbcbepmpddaaGreatDoor
