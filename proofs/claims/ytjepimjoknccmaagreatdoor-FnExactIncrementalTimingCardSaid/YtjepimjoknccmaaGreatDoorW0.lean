/-
  The functions keep their contracts, if what they call does. Printed by program.
-/
import Derived.Test.YtjepimjoknccmaaGreatDoorM
import Derived.KernelRfl
namespace Go.Proofs.YtjepimjoknccmaaGreatDoor
open Go Go.Sx
set_option maxRecDepth 100000
set_option maxHeartbeats 6400000
set_option linter.unusedVariables false
set_option linter.unusedSimpArgs false
structure Ws0:Prop where
 w298:Sq 344 ZJK->Sq 297 ZJL
 w297:Sq 344 ZJK
 w220:Sq 223 ZIU
 w253:Sq 183 ZI5->Sq 184 ZI9->Sq 114 ZHw->Sq 107 ZJa
 w256:Sq 108 c198->Sq 113 ZF9
 w225:Sq 187 c222->Sq 108 c198->Sq 186 ZHp->Sq 224 ZIW->Sq 161 ZHq
 w175:Sq 374 c175
 w171:Sq 397 ZIt->Sq 384 c171
 w169:Sq 398 ZIs
 w172:Sq 371 ZHj->Sq 375 ZF5
 w215:Sq 324 ZHk->Sq 280 ZIR
 w198:Sq 108 c198
 w259:Sq 107 ZJa->Sq 108 c198->Sq 109 ZJb->Sq 110 ZJc->Sq 111 ZF7->Sq 112 ZF8->Sq 113 ZF9->Sq 114 ZHw->Sq 49 ZGa
 w207:Sq 226 c148->Sq 275 ZIL->Sq 274 ZIN->Sq 108 c198->Sq 229 c206->Sq 276 ZHl->Sq 270 ZF6->Sq 160 c156->Sq 221 ZIO
 w217:Sq 108 c198->Sq 277 c210->Sq 278 ZHn->Sq 230 ZFH->Sq 279 ZIQ->Sq 280 ZIR->Sq 281 ZIS->Sq 160 c156->Sq 220 ZHm->Sq 222 ZIT
 w202:Sq 275 ZIL
 w261:Sq 49 ZGa->Sq 96 c228->Sq 170 ZJd->Sq 98 ZHs->Sq 168 ZHu->Sq 100 ZHt->Sq 102 ZJe
 w201:Sq 219 ZIJ->Sq 108 c198->Sq 220 ZHm->Sq 157 c201
 w184:Sq 230 ZFH->Sq 355 c154->Sq 356 ZIx->Sq 226 c148->Sq 357 c183->Sq 315 ZIB
 w194:Sq 272 c194
 w185:Sq 315 ZIB->Sq 316 ZF3->Sq 267 ZIC
 w163:Sq 401 c162->Sq 175 c160->Sq 395 ZIp
 w200:Sq 160 c156->Sq 226 c148->Sq 273 ZIK->Sq 175 c160->Sq 220 ZHm
 w314:Sq 103 ZJv->Sq 104 ZJw->Sq 105 ZJz->Sq 106 ZJY->Sq 48 ZJZ
 w154:Sq 226 c148->Sq 371 ZHj->Sq 316 ZF3->Sq 355 c154
 w234:Sq 164 c232->Sq 228 c233->Sq 165 c234
 w208:Sq 321 c208
 w285:Sq 239 ZJA->Sq 233 ZJB
 w272:Sq 234 ZJo
 w313:Sq 167 c229->Sq 116 ZHx->Sq 180 ZHy->Sq 179 ZJE->Sq 182 ZJX->Sq 164 c232->Sq 106 ZJY
 w162:Sq 160 c156->Sq 226 c148->Sq 175 c160->Sq 176 ZF4->Sq 401 c162
 w211:Sq 278 ZHn
 w233:Sq 226 c148->Sq 228 c233
 w150:Sq 371 ZHj
 w242:Sq 169 ZI1
 w228:Sq 108 c198->Sq 159 ZIV->Sq 160 c156->Sq 161 ZHq->Sq 162 c227->Sq 96 c228
 w305:Sq 335 ZFI->Sq 336 ZJQ
 w296:Sq 333 ZHz
 w280:Sq 167 c229->Sq 175 c160->Sq 176 ZF4->Sq 104 ZJw
 w306:Sq 289 ZGb->Sq 333 ZHz->Sq 334 ZHA->Sq 335 ZFI->Sq 337 ZJP->Sq 336 ZJQ->Sq 288 ZJR
 w271:Sq 173 ZJn
 w230:Sq 167 c229->Sq 226 c148->Sq 163 ZIX
 w243:Sq 167 c229->Sq 168 ZHu->Sq 169 ZI1->Sq 164 c232->Sq 165 c234->Sq 101 ZHv
 w295:Sq 289 ZGb
 w260:Sq 167 c229->Sq 170 ZJd
 w310:Sq 288 ZJR->Sq 289 ZGb->Sq 290 ZJU->Sq 242 ZJV
 w308:Sq 366 ZJS->Sq 335 ZFI->Sq 338 ZJT
 w335:Sq 119 ZKe->Sq 120 ZKf->Sq 121 ZKh->Sq 54 ZKi
 w339:Sq 56 ZHC->Sq 19 ZKl
 w320:Sq 17 ZDU
 w321:Sq 302 ZJ4
 w334:Sq 193 ZKg->Sq 121 ZKh
 w340:Sq 117 ZHB->Sq 57 ZKm
 w341:Sq 57 ZKm->Sq 20 ZKn
 w332:Sq 120 ZKf
 w337:Sq 56 ZHC->Sq 55 ZKj
 w363:Sq 64 ZKF->Sq 65 ZKG->Sq 26 ZKH
 w356:Sq 61 ZKz->Sq 22 ZKA
 w349:Sq 194 ZDV->Sq 25 ZDt->Sq 123 ZKt
 w344:Sq 25 ZDt
 w348:Sq 122 ZKr->Sq 58 ZKs
 w343:Sq 194 ZDV->Sq 195 ZKo
 w353:Sq 25 ZDt->Sq 60 ZKx
 w5:Sq 304 c4->Sq 256 c5
 w6:Sq 256 c5->Sq 198 c6
 w22:Sq 32 c22
 w7:Sq 197 c1->Sq 198 c6->Sq 70 c2->Sq 126 c7
 w8:Sq 126 c7->Sq 66 c8
 w15:Sq 67 c11->Sq 68 c12->Sq 69 c14->Sq 29 c15
 w10:Sq 70 c2->Sq 127 c10
 w2:Sq 70 c2
 w0:Sq 255 c0
 w12:Sq 68 c12
 w31:Sq 266 c30->Sq 218 c31
 w27:Sq 93 c27
 w34:Sq 89 c33->Sq 39 c34
 w38:Sq 156 c38
 w50:Sq 94 c46->Sq 45 c50
 w28:Sq 93 c27->Sq 354 c28
 w51:Sq 44 c49->Sq 45 c50->Sq 14 c51
 w300:Sq 297 ZJL->Sq 391 ZJM->Sq 380 ZJN
 w245:Sq 245 ZI3
 w248:Sq 247 ZI6
 w250:Sq 249 ZI8
 w222:Sq 187 c222
 w167:Sq 400 ZIr->Sq 393 c167
 w192:Sq 238 ZIF->Sq 179 ZIH
 w159:Sq 238 ZIo->Sq 179 c159
 w209:Sq 321 c208->Sq 320 ZIP
 w180:Sq 387 ZIy->Sq 386 ZIz
 w213:Sq 323 c212->Sq 322 c213
 w170:Sq 398 ZIs->Sq 397 ZIt
 w291:Sq 286 ZJF->Sq 285 ZJG
 w166:Sq 394 ZIq->Sq 400 ZIr
 w191:Sq 317 ZIE->Sq 238 ZIF
 w274:Sq 235 ZJq
 w164:Sq 396 c164
 w80:Sq 129 c69->Sq 130 c70->Sq 131 c71->Sq 132 c79->Sq 71 c80
 w82:Sq 134 c53->Sq 135 c82
 w87:Sq 71 c80->Sq 72 c84->Sq 73 c86->Sq 34 c87
 w107:Sq 71 c80->Sq 74 c89->Sq 75 ZH6->Sq 35 c107
 w146:Sq 76 c124->Sq 77 ZIe->Sq 78 c145->Sq 36 c146
 w131:Sq 310 c131
 w53:Sq 134 c53
 w115:Sq 80 c66->Sq 210 ZIb
 w64:Sq 203 c52->Sq 259 c64
 w66:Sq 80 c66
 w67:Sq 80 c66->Sq 153 c67
 w97:Sq 149 c94->Sq 150 c95->Sq 86 c96->Sq 79 c97
 w96:Sq 151 c90->Sq 86 c96
 w104:Sq 79 c97->Sq 80 c66->Sq 81 ZH4->Sq 82 ZH5->Sq 83 c98->Sq 84 c99->Sq 85 ZF1->Sq 86 c96->Sq 37 ZF2
 w70:Sq 130 c70
 w119:Sq 212 c119
 w117:Sq 134 c53->Sq 142 c117
 w143:Sq 214 c141->Sq 215 ZIk->Sq 147 c143
 w84:Sq 133 c81->Sq 134 c53->Sq 135 c82->Sq 136 c83->Sq 72 c84
 w88:Sq 135 c82->Sq 136 c83->Sq 138 c88
set_option maxHeartbeats 100000000 in
theorem ws0:Ws0:=by
 refine ⟨(λq0=>G8 Zn (Zd q0 Zi) {} Tryz.func297 ?_),
 (G8 Zn Zi {} Tryz.func344 ?_),
 (G8 Zn Zi {} Tryz.func223 ?_),
 (λq0 q1 q2=>G8 YX (Zd q0 (Zd q1 (Zd q2 Zi))) {loops:=[(0,[.reg 16 (.dat Iq),.cello 1003 4 (.ol 66 (Zmr))])],draws:=[(1,[],.o [0,1,3,4] (.alt 2 (.alt 5 (.op 6 (.a [7,8] .done)) (.a [7,5] (.op 6 (.d 8)))) (.a [7,2,5] (.op 6 (.d 8))))),(5,[],.o [0,1,2] (.a [3,4,5] (.op 6 (.d 7))))]} Tryz.func107 ?_),
 (λq0=>G8 YX (Zd q0 Zi) {loops:=[(0,[.reg 13 (.dat Iq),.ent 4 (nat_lit 66) (Dp.pair (Dp.ol (2:Go.TypeId) (Dp.flat (Ty.int IntKind.i64))) (Dp.pair (Dp.ol (2:Go.TypeId) (Dp.flat (Ty.int IntKind.i64))) (Dp.pair (Dp.ol (2:Go.TypeId) (Dp.flat (Ty.int IntKind.i64))) (Dp.pair (Dp.ol (2:Go.TypeId) (Dp.flat (Ty.int IntKind.i64))) (Dp.flat Ty.unit)))))]),(2,[.reg 30 (.dat Iq),.ent 4 (nat_lit 66) (Dp.pair (Dp.ol (2:Go.TypeId) (Dp.flat (Ty.int IntKind.i64))) (Dp.pair (Dp.ol (2:Go.TypeId) (Dp.flat (Ty.int IntKind.i64))) (Dp.pair (Dp.ol (2:Go.TypeId) (Dp.flat (Ty.int IntKind.i64))) (Dp.pair (Dp.ol (2:Go.TypeId) (Dp.flat (Ty.int IntKind.i64))) (Dp.flat Ty.unit)))))])],draws:=[(9,[],.u 0 8 .done),(10,[],.u 0 4 (.u 5 6 (.alt 4 (.a [11,12,13] (.o [14,15] (.d 16))) (.alt 11 (.alt 4 (.a [12,13] (.o [14,15] (.d 16))) (.a [12,4,13] (.o [14,15] (.d 16)))) .done))))]} Tryz.func113 ?_),
 (λq0 q1 q2 q3=>G8 Zn (Zd q0 (Zd q1 (Zd q2 (Zd q3 Zi)))) {loops:=[(0,[.reg 27 (.dat Iq),.ent 2 (nat_lit 2) (.flat (Ty.int IntKind.i64))]),(2,[.reg 10 (.dat Iq),.ent 2 (nat_lit 2) (.flat (Ty.int IntKind.i64))])],draws:=[(7,[],.u 0 16 (.alt 16 (.o [17,18] (.d 19)) .done)),(12,[],.u 0 14 (.d 14))]} Tryz.func161 ?_),
 (G8 Zn Zi {} Tryz.func374 ?_),
 (λq0=>G8 Zn (Zd q0 Zi) {} Tryz.func384 ?_),
 (G8 Zn Zi {} Tryz.func398 ?_),
 (λq0=>G8 Zn (Zd q0 Zi) {} Tryz.func375 ?_),
 (λq0=>G8 Zn (Zd q0 Zi) {} Tryz.func280 ?_),
 (G8 Zn Zi {loops:=[(0,[.reg 3 (.own (.ol 177 (.flat (ZoL)))),.reg 13 (.dat Iq)]),(2,[.reg 3 (.own (.ol 177 (.flat (ZoL)))),.reg 21 (.dat Iq)]),(4,[.reg 3 (.own (.ol 177 (.flat (ZoL)))),.reg 44 (.dat Iq)])]} Tryz.func108 ?_),
 (λq6 q1 q4 q0 q2 q5 q3 q7=>G8 YX (Zd q6 (Zd q1 (Zd q4 (Zd q0 (Zd q2 (Zd q5 (Zd q3 (Zd q7 Zi)))))))) {draws:=[(4,[],.u 0 5 (.o [6,7,11,12] (.alt 5 (.o [8,9,10,13,14] (.d 15)) .done))),(11,[],.o [0,1,3,4] (.alt 2 (.o [5,6] (.a [7,8] .done)) (.a [7,2] (.o [5,6] (.d 8))))),(17,[],.u 0 6 (.alt 6 (.op 7 (.d 8)) .done))]} Tryz.func49 ?_),
 (λq7 q5 q6 q2 q0 q1 q3 q4=>G8 Zn (Zd q7 (Zd q5 (Zd q6 (Zd q2 (Zd q0 (Zd q1 (Zd q3 (Zd q4 Zi)))))))) {draws:=[(1,[],.o [0,1] (.alt 2 (.u 3 4 (.a [7,8] (.o [9,10] .done))) .done)),(3,[],.u 0 4 (.a [4,5] (.op 6 (.alt 7 (.op 8 .done) .done)))),(7,[],.u 0 7 (.alt 7 (.op 8 (.alt 9 (.o [10,11] .done) .done)) .done)),(9,[],.u 0 6 (.alt 6 (.u 7 11 (.alt 18 (.op 19 (.alt 20 (.o [21,22] .done) .done)) .done)) .done))]} Tryz.func221 ?_),
 (λq2 q5 q6 q7 q3 q1 q0 q4 q8=>G8 Zn (Zd q2 (Zd q5 (Zd q6 (Zd q7 (Zd q3 (Zd q1 (Zd q0 (Zd q4 (Zd q8 Zi))))))))) {draws:=[(6,[],.u 0 27 (.alt 27 (.o [28,29] .done) .done)),(12,[],.u 0 19 .done),(13,[],.u 0 9 (.a [9,10] (.op 11 .done)))]} Tryz.func222 ?_),
 (G8 Zn Zi {} Tryz.func275 ?_),
 (λq3 q4 q1 q0 q2 q5=>G8 Zn (Zd q3 (Zd q4 (Zd q1 (Zd q0 (Zd q2 (Zd q5 Zi)))))) {loops:=[(0,[.reg 23 (.dat Iq),.ent 9 (nat_lit 4) (.flat Ty.bool),.ent 10 (nat_lit 104) (.flat YU),.ent 11 (nat_lit 104) (.flat YU)])],draws:=[(8,[],.u 0 4 (.o [5,6] (.u 8 17 (.l [4,7] (.alt 25 (.op 26 (.alt 27 (.op 28 (.d 29)) .done)) .done)))))]} Tryz.func102 ?_),
 (λq1 q0 q2=>G8 Zn (Zd q1 (Zd q0 (Zd q2 Zi))) {loops:=[(0,[.reg 32 (.dat Iq),.ent 1 (nat_lit 2) (.flat ZzA.ety)]),(2,[.reg 50 (.dat Iq)])],draws:=[(13,[],.u 0 5 (.alt 5 (.op 6 .done) .done))]} Tryz.func157 ?_),
 (λq3 q2 q1 q4 q0=>G8 Zn (Zd q3 (Zd q2 (Zd q1 (Zd q4 (Zd q0 Zi))))) {} Tryz.func315 ?_),
 (G8 Zn Zi {} Tryz.func272 ?_),
 (λq1 q0=>G8 Zn (Zd q1 (Zd q0 Zi)) {loops:=[(0,[.reg 3 (.own (.ol 9 (.flat (.str)))),.reg 9 (.dat Iq)])]} Tryz.func267 ?_),
 (λq1 q0=>G8 Zn (Zd q1 (Zd q0 Zi)) {} Tryz.func395 ?_),
 (λq0 q3 q1 q2=>G8 Zn (Zd q0 (Zd q3 (Zd q1 (Zd q2 Zi)))) {} Tryz.func220 ?_),
 (λq3 q0 q1 q2=>G8 Zn (Zd q3 (Zd q0 (Zd q1 (Zd q2 Zi)))) {} Tryz.func48 ?_),
 (λq2 q0 q1=>G8 Zn (Zd q2 (Zd q0 (Zd q1 Zi))) {loops:=[(0,[.reg 3 (.own (.ol 9 (.flat (.str)))),.reg 8 (.dat Iq)])]} Tryz.func355 ?_),
 (λq0 q1=>G8 Zn (Zd q0 (Zd q1 Zi)) {} Tryz.func165 ?_),
 (G8 Zn Zi {} Tryz.func321 ?_),
 (λq0=>G8 Zn (Zd q0 Zi) {loops:=[(0,[.reg 5 (.own (.ol 2 (.flat Iq))),.reg 16 (.dat Iq)])]} Tryz.func233 ?_),
 (G8 Zn Zi {} Tryz.func234 ?_),
 (λq3 q1 q4 q0 q2 q5=>G8 YX (Zd q3 (Zd q1 (Zd q4 (Zd q0 (Zd q2 (Zd q5 Zi)))))) {loops:=[(0,[.reg 15 (.own (.ol 2 (.flat Iq))),.reg 28 (.dat Iq),.ent 0 (nat_lit 4) (.flat Ty.bool),.ent 1 (nat_lit 104) (.flat YU),.ent 2 (nat_lit 104) (.flat YU),.ent 6 (nat_lit 4) (.flat ZBS.ety)])],draws:=[(11,[],.u 0 30 (.d 30)),(12,[],.u 0 4 (.o [5,6,8,9,10,12,14] (.l [4,7,11,13] (.alt 15 (.op 16 (.alt 17 (.op 18 (.d 19)) .done)) .done))))]} Tryz.func106 ?_),
 (λq0 q3 q2 q1=>G8 Zn (Zd q0 (Zd q3 (Zd q2 (Zd q1 Zi)))) {} Tryz.func401 ?_),
 (G8 Zn Zi {} Tryz.func278 ?_),
 (λq0=>G8 Zn (Zd q0 Zi) {} Tryz.func228 ?_),
 (G8 Zn Zi {} Tryz.func371 ?_),
 (G8 Zn Zi {} Tryz.func169 ?_),
 (λq3 q1 q4 q2 q0=>G8 YX (Zd q3 (Zd q1 (Zd q4 (Zd q2 (Zd q0 Zi))))) {loops:=[(0,[.reg 4 (.dat Iq),.reg 25 (.dat Iq),.cello 1020 6 (.ol 224 (.flat (ZcZ)))]),(2,[.reg 60 (.dat Iq),.ent 4 (nat_lit 2) (.flat ZzA.ety),.ent 5 (nat_lit 33) (Dp.ol (2:Go.TypeId) (Dp.flat (Ty.int IntKind.i64)))]),(4,[.reg 88 (.dat Iq),.cello 1020 7 (.ol 2 (.flat Iq)),.cello 1020 8 (.ol 33 (.ol 2 (.flat Iq))),.cello 1020 6 (.ol (nat_lit 224) (.flat ZcZ)),.ent 5 (nat_lit 33) (Dp.ol (2:Go.TypeId) (Dp.flat (Ty.int IntKind.i64)))]),(6,[.reg 122 (.dat Iq),.cello 1020 6 (.ol (nat_lit 224) (.flat ZcZ))]),(8,[.reg 127 (.dat Iq),.cello 1020 6 (.ol (nat_lit 224) (.flat ZcZ))])],draws:=[(1,[],.o [0,1,2] (.alt 3 (.op 4 (.alt 5 (.op 6 .done) .done)) .done)),(6,[],.u 0 8 (.a [8,9] (.o [10,11] (.d 12)))),(16,[],.o [0,1] (.u 3 6 (.ld 2 (.a [9,10] (.op 11 (.d 12)))))),(21,[],.u 0 7 (.alt 7 (.o [8,9] (.a [10,11] (.o [12,13] (.d 14)))) .done)),(22,[],.u 0 7 (.a [7,8,9] (.o [10,11] (.d 12)))),(29,[],.u 0 18 (.a [18,19] (.o [20,21] (.d 22))))]} Tryz.func96 ?_),
 (λq0=>G8 Zn (Zd q0 Zi) {} Tryz.func336 ?_),
 (G8 Zn Zi {draws:=[(1,[],.u 0 18 (.a [18,19] .done)),(2,[],.u 0 15 (.d 15))]} Tryz.func333 ?_),
 (λq1 q2 q0=>G8 Zn (Zd q1 (Zd q2 (Zd q0 Zi))) {} Tryz.func104 ?_),
 (λq2 q3 q1 q4 q0 q5=>G8 Zn (Zd q2 (Zd q3 (Zd q1 (Zd q4 (Zd q0 (Zd q5 Zi)))))) {draws:=[(5,[],.o [0,1,4,5,6] (.u 9 9 (.alt 2 (.o [3,7,8] (.alt 18 (.op 19 .done) .done)) .done))),(6,[],.u 0 12 (.alt 12 (.op 13 .done) .done))]} Tryz.func288 ?_),
 (G8 Zn Zi {loops:=[(0,[.reg 23 (.dat Iq),.ent 0 (nat_lit 4) (.flat ZBS.ety)]),(2,[.reg 35 (.dat Iq),.ent 0 (nat_lit 4) (.flat ZBS.ety)])]} Tryz.func173 ?_),
 (λq0 q1=>G8 Zn (Zd q0 (Zd q1 Zi)) {} Tryz.func163 ?_),
 (λq2 q1 q0 q4 q3=>G8 Zn (Zd q2 (Zd q1 (Zd q0 (Zd q4 (Zd q3 Zi))))) {loops:=[(0,[.reg 32 (.dat Iq)])]} Tryz.func101 ?_),
 (G8 Zn Zi {draws:=[(1,[],.u 0 11 .done)]} Tryz.func289 ?_),
 (λq0=>G8 Zn (Zd q0 Zi) {draws:=[(2,[],.o [0,2,4] (.alt 1 (.alt 3 (.alt 5 (.op 6 (.d 7)) .done) (.a [5,3] (.op 6 (.d 7)))) (.alt 3 (.alt 1 (.alt 5 (.op 6 (.d 7)) .done) (.a [5,1] (.op 6 (.d 7)))) (.alt 5 (.alt 1 (.alt 3 (.op 6 (.d 7)) .done) (.a [3,1] (.op 6 (.d 7)))) .done))))]} Tryz.func170 ?_),
 (λq0 q1 q2=>G8 Zn (Zd q0 (Zd q1 (Zd q2 Zi))) {draws:=[(1,[],.u 0 6 .done),(2,[],.u 0 4 (.u 5 4 (.u 11 4 (.u 16 4 (.alt 4 (.alt 9 (.op 10 (.alt 15 (.alt 20 (.o [21,22] (.a [23,24] .done)) (.a [23,20] (.o [21,22] (.d 24)))) (.a [23,15,20] (.o [21,22] (.d 24))))) (.a [23,9] (.op 10 (.a [15,20] (.o [21,22] (.d 24)))))) (.a [23,4,9] (.op 10 (.a [15,20] (.o [21,22] (.d 24)))))))))),(5,[],.u 0 6 (.alt 6 (.o [7,8,9] .done) .done)),(8,[],.op 0 (.alt 1 (.a [2,3] .done) (.a [2,1,3] .done)))]} Tryz.func242 ?_),
 (λq1 q0=>G8 Zn (Zd q1 (Zd q0 Zi)) {} Tryz.func338 ?_),
 (λq0 q1 q2=>G8 Zn (Zd q0 (Zd q1 (Zd q2 Zi))) {} Tryz.func54 ?_),
 (λq0=>G8 Zn (Zd q0 Zi) {} Tryz.func19 ?_),
 (G8 Zn Zi {loops:=[(0,[.reg 5 (.dat Iq)])],draws:=[(6,[],.u 0 9 .done)]} Tryz.func17 ?_),
 (G8 Zn Zi {} Tryz.func302 ?_),
 (λq0=>G8 Zn (Zd q0 Zi) {loops:=[(0,[.reg 5 (.dat Iq)])],draws:=[(6,[],.u 0 8 (.alt 8 (.op 9 .done) .done))]} Tryz.func121 ?_),
 (λq0=>G8 Zn (Zd q0 Zi) {} Tryz.func57 ?_),
 (λq0=>G8 Zn (Zd q0 Zi) {loops:=[(0,[.reg 5 (.dat Iq)])],draws:=[(6,[],.u 0 8 (.alt 8 (.op 9 .done) .done))]} Tryz.func20 ?_),
 (G8 Zn Zi {loops:=[(0,[.reg 5 (.dat Iq)])],draws:=[(6,[],.u 0 9 .done)]} Tryz.func120 ?_),
 (λq0=>G8 Zn (Zd q0 Zi) {loops:=[(0,[.reg 5 (.dat Iq)])],draws:=[(6,[],.u 0 8 (.alt 8 (.op 9 .done) .done))]} Tryz.func55 ?_),
 (λq0 q1=>G8 Zn (Zd q0 (Zd q1 Zi)) {} Tryz.func26 ?_),
 (λq0=>G8 YX (Zd q0 Zi) {} Tryz.func22 ?_),
 (λq1 q0=>G8 YX (Zd q1 (Zd q0 Zi)) {loops:=[(0,[.reg 1 (.dat Iq),.reg 5 (.dat Iq),.ent 0 (nat_lit 144) (Dp.pair (Dp.flat Ty.str) (Dp.pair (Dp.flat (Ty.int IntKind.i64)) (Dp.pair (Dp.ol (2:Go.TypeId) (Dp.flat (Ty.int IntKind.i64))) (Dp.flat Ty.unit))))])]} Tryz.func123 ?_),
 (G8 YX Zi {loops:=[(0,[.reg 1 (.dat Iq),.reg 5 (.dat Iq),.ent 0 (nat_lit 2) (.flat (Ty.int IntKind.i64))])]} Tryz.func25 ?_),
 (λq0=>G8 YX (Zd q0 Zi) {} Tryz.func58 ?_),
 (λq0=>G8 YX (Zd q0 Zi) {loops:=[(0,[.reg 1 (.dat Iq),.reg 5 (.dat Iq),.ent 0 (nat_lit 311) (.flat Ze1)])]} Tryz.func195 ?_),
 (λq0=>G8 YX (Zd q0 Zi) {loops:=[(0,[.reg 1 (.dat Iq),.reg 5 (.dat Iq),.ent 0 (nat_lit 66) (Dp.pair (Dp.ol (2:Go.TypeId) (Dp.flat (Ty.int IntKind.i64))) (Dp.pair (Dp.ol (2:Go.TypeId) (Dp.flat (Ty.int IntKind.i64))) (Dp.pair (Dp.ol (2:Go.TypeId) (Dp.flat (Ty.int IntKind.i64))) (Dp.pair (Dp.ol (2:Go.TypeId) (Dp.flat (Ty.int IntKind.i64))) (Dp.flat Ty.unit)))))])]} Tryz.func60 ?_),
 (λq0=>G8 Zn (Zd q0 Zi) {} Tryz.func256 ?_),
 (λq0=>G8 Zn (Zd q0 Zi) {loops:=[(0,[.reg 1 (.dat Iq),.reg 5 (.dat Iq)])]} Tryz.func198 ?_),
 (G8 Zn Zi {} Tryz.func32 ?_),
 (λq1 q2 q0=>G8 Zn (Zd q1 (Zd q2 (Zd q0 Zi))) {} Tryz.func126 ?_),
 (λq0=>G8 Zn (Zd q0 Zi) {loops:=[(0,[.reg 1 (.dat Iq),.reg 5 (.dat Iq)])]} Tryz.func66 ?_),
 (λq0 q1 q2=>G8 Zn (Zd q0 (Zd q1 (Zd q2 Zi))) {} Tryz.func29 ?_),
 (λq0=>G8 Zn (Zd q0 Zi) {} Tryz.func127 ?_),
 (G8 Zn Zi {} Tryz.func70 ?_),
 (G8 Zn Zi {} Tryz.func255 ?_),
 (G8 Zn Zi {loops:=[(0,[.reg 1 (.dat Iq),.reg 5 (.dat Iq)])]} Tryz.func68 ?_),
 (λq0=>G8 YX (Zd q0 Zi) {loops:=[(0,[.reg 4 (.dat Iq),.ent 0 (nat_lit 280) Zzv])]} Tryz.func218 ?_),
 (G8 Zn Zi {loops:=[(0,[.reg 4 (.dat Iq),.ent 0 (nat_lit 2) (.flat ZzA.ety)])]} Tryz.func93 ?_),
 (λq0=>G8 YX (Zd q0 Zi) {} Tryz.func39 ?_),
 (G8 Zn Zi {} Tryz.func156 ?_),
 (λq0=>G8 Zn (Zd q0 Zi) {loops:=[(0,[.reg 4 (.dat Iq),.ent 0 (nat_lit 104) (.flat ZHU.ety)])]} Tryz.func45 ?_),
 (λq0=>G8 Zn (Zd q0 Zi) {} Tryz.func354 ?_),
 (λq0 q1=>G8 Zn (Zd q0 (Zd q1 Zi)) {} Tryz.func14 ?_),
 (λq1 q0=>G8 Zn (Zd q1 (Zd q0 Zi)) {loops:=[(0,[.reg 7 (.dat Iq),.reg 8 (.dat Iq)])]} Tryz.func380 ?_),
 (G8 Zn Zi {} Tryz.func245 ?_),
 (G8 Zn Zi {} Tryz.func247 ?_),
 (G8 Zn Zi {} Tryz.func249 ?_),
 (G8 Zn Zi {} Tryz.func187 ?_),
 (λq0=>G8 Zn (Zd q0 Zi) {} Tryz.func393 ?_),
 (λq0=>G8 Zn (Zd q0 Zi) {} Tryz.func179 ?_),
 (λq0=>G8 Zn (Zd q0 Zi) {} Tryz.func179 ?_),
 (λq0=>G8 Zn (Zd q0 Zi) {loops:=[(0,[.reg 17 (.dat Iq)])]} Tryz.func320 ?_),
 (λq0=>G8 Zn (Zd q0 Zi) {loops:=[(0,[.reg 8 (.dat Iq)])]} Tryz.func386 ?_),
 (λq0=>G8 Zn (Zd q0 Zi) {loops:=[(0,[.reg 8 (.dat Iq)])]} Tryz.func322 ?_),
 (λq0=>G8 Zn (Zd q0 Zi) {loops:=[(0,[.reg 8 (.dat Iq)])]} Tryz.func397 ?_),
 (λq0=>G8 Zn (Zd q0 Zi) {loops:=[(0,[.reg 8 (.dat Iq)])]} Tryz.func285 ?_),
 (λq0=>G8 Zn (Zd q0 Zi) {loops:=[(0,[.reg 8 (.dat Iq)])]} Tryz.func400 ?_),
 (λq0=>G8 Zn (Zd q0 Zi) {loops:=[(0,[.reg 8 (.dat Iq)])]} Tryz.func238 ?_),
 (G8 Zn Zi {loops:=[(0,[.reg 8 (.dat Iq)])]} Tryz.func235 ?_),
 (G8 Zn Zi {loops:=[(0,[.reg 3 (.dat Iq),.reg 4 (.dat Iq)])]} Tryz.func396 ?_),
 (λq3 q0 q1 q2=>G8 Zn (Zd q3 (Zd q0 (Zd q1 (Zd q2 Zi)))) {} Tryz.func71 ?_),
 (λq0=>G8 Zn (Zd q0 Zi) {} Tryz.func135 ?_),
 (λq2 q0 q1=>G8 Zn (Zd q2 (Zd q0 (Zd q1 Zi))) {} Tryz.func34 ?_),
 (λq1 q2 q0=>G8 Zn (Zd q1 (Zd q2 (Zd q0 Zi))) {} Tryz.func35 ?_),
 (λq2 q1 q0=>G8 Zn (Zd q2 (Zd q1 (Zd q0 Zi))) {} Tryz.func36 ?_),
 (G8 Zn Zi {} Tryz.func310 ?_),
 (G8 Zn Zi {} Tryz.func134 ?_),
 (λq0=>G8 Zn (Zd q0 Zi) {loops:=[(0,[.reg 6 (.dat Iq)])]} Tryz.func210 ?_),
 (λq0=>G8 Zn (Zd q0 Zi) {loops:=[(0,[.reg 3 (.dat Iq)]),(2,[.reg 4 (.dat Iq)])],draws:=[(9,[],.u 0 9 .done)]} Tryz.func259 ?_),
 (G8 Zn Zi {loops:=[(0,[.reg 3 (.own (.ol 146 (.flat (Zg1)))),.reg 4 (.dat Iq)]),(2,[.reg 3 (.own (.ol 146 (.flat (Zg1)))),.reg 6 (.dat Iq)]),(4,[.reg 3 (.own (.ol 146 (.flat (Zg1)))),.reg 7 (.dat Iq)])],draws:=[(13,[],.u 0 16 (.a [16,17] (.op 18 .done)))]} Tryz.func80 ?_),
 (λq0=>G8 Zn (Zd q0 Zi) {loops:=[(0,[.reg 5 (.own (.ol 2 (.flat Iq))),.reg 7 (.dat Iq)])]} Tryz.func153 ?_),
 (λq0 q2 q1=>G8 YX (Zd q0 (Zd q2 (Zd q1 Zi))) {loops:=[(0,[.reg 4 (.dat Iq),.cello 1003 4 (.ol 66 (Zmr))])],draws:=[(1,[],.o [0,1,3,4] (.alt 2 (.alt 5 (.op 6 (.a [7,8] .done)) (.a [7,5] (.op 6 (.d 8)))) (.a [7,2,5] (.op 6 (.d 8))))),(5,[],.u 0 7 (.a [7,8,9] (.op 10 (.d 11))))]} Tryz.func79 ?_),
 (λq0=>G8 Zn (Zd q0 Zi) {draws:=[(1,[],.o [0,1,3,4,6,7,9,10] (.a [2,5,8,11] (.op 12 (.d 13))))]} Tryz.func86 ?_),
 (λq7 q2 q3 q4 q6 q0 q5 q1=>G8 YX (Zd q7 (Zd q2 (Zd q3 (Zd q4 (Zd q6 (Zd q0 (Zd q5 (Zd q1 Zi)))))))) {draws:=[(5,[],.u 0 13 (.d 13)),(13,[],.u 0 9 (.d 9)),(16,[],.u 0 6 (.alt 6 (.op 7 (.d 8)) .done))]} Tryz.func37 ?_),
 (G8 Zn Zi {} Tryz.func130 ?_),
 (G8 Zn Zi {loops:=[(0,[.reg 5 (.dat Iq)])]} Tryz.func212 ?_),
 (λq0=>G8 Zn (Zd q0 Zi) {loops:=[(0,[.reg 5 (.dat Iq)])],draws:=[(4,[],.u 0 6 (.alt 6 (.u 7 17 .done) .done))]} Tryz.func142 ?_),
 (λq0 q1=>G8 Zn (Zd q0 (Zd q1 Zi)) {loops:=[(0,[.reg 16 (.dat (.bool)),.reg 18 (.dat Iq),.cell 1017 0 Iq,.cell 1017 1 Iq,.cell 1017 2 Iq,.cell 1017 3 Iq,.cell 1017 4 Iq]),(2,[.reg 16 (.dat (.bool)),.reg 19 (.dat Iq),.cell 1017 0 Iq,.cell 1017 1 Iq,.cell 1017 2 Iq,.cell 1017 3 Iq,.cell 1017 4 Iq])],draws:=[(14,[],.u 0 9 (.alt 9 (.o [10,11,12] (.alt 13 (.a [14,15,16] .done) (.a [14,13,15,16] .done))) (.alt 13 (.alt 9 (.o [10,11,12] (.a [14,15,16] .done)) (.a [14,9] (.o [10,11,12] (.a [15,16] .done)))) (.alt 14 (.alt 9 (.o [10,11,12] (.a [13,15,16] .done)) (.a [13,9] (.o [10,11,12] (.a [15,16] .done)))) .done)))),(15,[],.u 0 21 (.a [21,22] .done)),(21,[],.o [0,1,2] (.d 3))]} Tryz.func147 ?_),
 (λq0 q3 q2 q1=>G8 Zn (Zd q0 (Zd q3 (Zd q2 (Zd q1 Zi)))) {loops:=[(0,[.reg 6 (.dat Iq)])],draws:=[(5,[],.u 0 7 (.alt 7 (.u 8 25 (.alt 33 (.u 34 8 (.alt 42 (.o [43,44] .done) .done)) .done)) .done))]} Tryz.func72 ?_),
 (λq1 q0=>G8 Zn (Zd q1 (Zd q0 Zi)) {loops:=[(0,[.reg 5 (.dat Iq)])]} Tryz.func138 ?_)⟩
 all_goals
  intro a;repeat rcases a with ⟨_,a⟩
  rintro K ⟨r,h,hK⟩;repeat'
    conv=>whnf
    first
    | with_reducible refine Ziq ?_
    | with_reducible refine ZoQ (by assumption) (by assumption) (by assumption) ?_
    | with_reducible refine ZaC (by assumption) ?_
    | with_reducible refine ZoW (by assumption) ?_
    | (with_reducible refine shD ?_);first | refine Zlo h (λh=>?_) (λh=>?_) | refine ZDg h (λh=>?_) (λh=>?_)
    | (with_reducible refine ZEE ?_);first | refine ZBD ?_ | refine ZqW ?_
    | (with_reducible refine ZK3 ?_);first | refine Zwo h (λh=>?_) (λh=>?_) | refine ZFy h (λh=>?_) (λh=>?_)
    | (with_reducible refine ZED ?_);(refine ⟨λhd=>?_,?_⟩)<;>try subst hd
    | (with_reducible refine ZK5 ?_);first | with_reducible refine QL h (λx hb h=>?_) | refine ZoW (by assumption) ?_ | with_reducible refine pG h (λhp h=>?_) | with_reducible refine pA h (λx ha hb hx h=>?_) | with_reducible refine pB h (λx hb h=>?_) | refine QL h (λx hb h=>?_)
    | (with_reducible refine ZK2 ?_);first | with_reducible refine vAt h (λx ha hb hx h=>?_) | refine ZoQ (by assumption) (by assumption) (by assumption) ?_ | with_reducible refine pG h (λhp h=>?_) | with_reducible refine pA h (λx ha hb hx h=>?_) | with_reducible refine pB h (λx hb h=>?_) | refine vAt h (λx ha hb hx h=>?_)
    | (with_reducible refine ZEC ?_);first | with_reducible refine Zzr h (λx hb h=>?_) | refine ZaC (by assumption) ?_ | with_reducible refine pG h (λhp h=>?_) | with_reducible refine pA h (λx ha hb hx h=>?_) | with_reducible refine pB h (λx hb h=>?_) | refine Zzr h (λx hb h=>?_)
    | with_reducible refine ZK4 ?_
    | (with_reducible refine ZBh ?_);refine ZBC h hK ?_;clear h hK;intro I μ v r h hK;(repeat rcases v with ⟨_,v⟩);(try dsimp only at h)
    | with_reducible refine ⟨by assumption,?_⟩
    | with_reducible refine orL ?_
    | with_reducible refine .inr ?_
    | (with_reducible refine ZEF ?_);first | refine ⟨?_,True.intro⟩ | refine ⟨?_,?_⟩
    | refine ⟨by kernel_rfl,?_⟩
    | refine ⟨by decide,?_⟩
    | with_reducible refine Zvf h (λhp h=>?_)
    | intro fp
    | exact trivial
    | with_reducible exact ZD5 h
    | (refine pS h (λe=>?_));subst e;(repeat (first | exact hK | exact ⟨⟨rfl,rfl⟩,hK.1 _ rfl⟩ | (refine pR hK (λe hK=>?_));subst e));done
    | refine Zvf h (λhp h=>?_)
    | refine ⟨by assumption,?_⟩
    | with_reducible refine pG h (λhp h=>?_) | with_reducible refine pA h (λx ha hb hx h=>?_) | with_reducible refine pB h (λx hb h=>?_)
    | refine pG h (λhp h=>?_)
    | fail
theorem ZPT (q0:Sq 247 ZI6) (q2:Sq 248 ZI7) (q1:Sq 249 ZI8) (q3:Sq 187 c222):Sq 184 ZI9:=by
 refine G8 YX (Zd q0 (Zd q2 (Zd q1 (Zd q3 Zi)))) {loops:=[(0,[.reg 19 (.dat Iq),.splt 1300 144 (Zcw)])],draws:=[(1,[],.o [0,1,3,4,6,7] (.alt 2 (.alt 5 (.alt 8 (.op 9 (.a [10,11] .done)) (.a [10,8] (.op 9 (.d 11)))) (.a [10,5,8] (.op 9 (.d 11)))) (.a [10,2,5,8] (.op 9 (.d 11))))),(5,[],.u 0 5 (.alt 5 (.o [6,7] (.d 8)) .done))]} Tryz.func184 ?_;rintro ⟨d0,⟨⟩⟩ K ⟨r,h,hK⟩
 change Js d0=some r at h
 unfold Js at h
 focus
  conv=>whnf
  refine ⟨by kernel_rfl,?_⟩
  conv=>whnf
  obtain ⟨Instance0,hb0,h⟩:=US.1 h;obtain ⟨string0,hb1,h⟩:=US.1 h;obtain ⟨Port0,hb2,h⟩:=US.1 h;refine ⟨?_,?_⟩;rotate_left
  focus
   conv=>whnf
   refine ⟨_,hb0,?_⟩
   conv=>whnf
   refine ⟨_,hb1,?_⟩
   conv=>whnf
   refine ⟨_,hb2,?_⟩
   conv=>whnf
   refine ⟨trivial,?_⟩
  rotate_right
  focus
   conv=>whnf
   refine ⟨_,hb0,?_⟩
   conv=>whnf
   refine ⟨?_,?_⟩;rotate_left
   focus
    conv=>whnf
    refine ⟨_,hb1,?_⟩
    conv=>whnf
    refine ⟨_,hb2,?_⟩
    conv=>whnf
    refine ⟨trivial,?_⟩
   rotate_right
   focus
    conv=>whnf
    refine ⟨_,hb1,?_⟩
    conv=>whnf
    refine ⟨?_,?_⟩;rotate_left
    focus
     conv=>whnf
     refine ⟨_,hb2,?_⟩
     conv=>whnf
     refine ⟨trivial,?_⟩
    rotate_right
    focus
     conv=>whnf
     refine ⟨_,hb2,?_⟩
     conv=>whnf
     refine ⟨trivial,?_⟩
  all_goals
   conv=>whnf
   refine Zwp h ?_;rintro I3 μ3 ⟨v0,l0,⟨⟩⟩ zs3 h hI3 hR3
   change QU Instance0 string0 Port0 v0 l0=some zs3 at h
   unfold QU at h
   conv=>whnf
   intro fp4
   conv=>whnf
   refine Zlo h (λh=>?_) (λh=>?_)
   conv=>whnf
   refine vAt h (λx0 he5a he5b he5x h=>?_)
   conv=>whnf
   refine Zvf h (λhp6 h=>?_)
   conv=>whnf
   refine ⟨he5a,he5b,ZaC he5x ?_⟩
   conv=>whnf
   refine ⟨by kernel_rfl,?_⟩
   conv=>whnf
   refine QL h (λint64_0 hb7 h=>?_)
   conv=>whnf
   refine ⟨he5a,he5b,ZaC he5x ?_⟩
   conv=>whnf
   refine Zvf h (λhp8 h=>?_)
   conv=>whnf
   refine vAt h (λx1 he9a he9b he9x h=>?_)
   conv=>whnf
   refine ⟨trivial,?_⟩
   conv=>whnf
   cases h;exact ⟨⟨rfl,rfl⟩,hI3 _ rfl⟩
   conv=>whnf
   refine Zvf h (λhp10 h=>?_)
   conv=>whnf
   cases h;obtain rfl:=hR3 _ rfl;exact hK
theorem ZPW (q0:Sq 190 ZJh):Sq 116 ZHx:=by
 refine G8 Zn (Zd q0 Zi) {} Tryz.func116 ?_;rintro ⟨s0,v0,⟨⟩⟩ K ⟨r,h,hK⟩
 change Yc s0 v0=some r at h
 unfold Yc at h
 conv=>whnf
 refine QL h (λint64_0 hb0 h=>?_)
 conv=>whnf
 cases h;exact hK
theorem ZPR (q0:Sq 87 ZH7) (q2:Sq 37 ZF2) (q1:Sq 80 c66) (q3:Sq 88 c109):Sq 38 ZH8:=by
 refine G8 Zn (Zd q0 (Zd q2 (Zd q1 (Zd q3 Zi)))) {loops:=[(0,[.reg 7 (.own (.ol 2 (.flat Iq))),.reg 8 (.dat Iq)])]} Tryz.func38 ?_;rintro ⟨b0,e0,⟨⟩⟩ K ⟨r,h,hK⟩
 change Zds b0 e0=some r at h
 unfold Zds at h
 conv=>whnf
 refine QL h (λl08Touched0 hb0 h=>?_)
 conv=>whnf
 refine QL h (λl08Apply0 hb1 h=>?_)
 conv=>whnf
 intro fp2
 conv=>whnf
 intro fp3
 conv=>whnf
 intro fp4
 conv=>whnf
 refine QL h (λl05Places0 hb5 h=>?_)
 conv=>whnf
 refine Zwp h ?_;rintro I6 μ6 ⟨out0,p0,⟨⟩⟩ zs6 h hI6 hR6
 change JQ l08Touched0 l05Places0 out0 p0=some zs6 at h
 unfold JQ at h
 conv=>whnf
 refine Zlo h (λh=>?_) (λh=>?_)
 conv=>whnf
 refine vAt h (λx0 he7a he7b he7x h=>?_)
 conv=>whnf
 refine ⟨by kernel_rfl,?_⟩
 conv=>whnf
 refine ⟨he7a,he7b,ZaC he7x ?_⟩
 conv=>whnf
 refine QL h (λl08Has0 hb8 h=>?_)
 conv=>whnf
 refine Zwo h (λh=>?_) (λh=>?_)
 conv=>whnf
 refine Zvf h (λhp9 h=>?_)
 conv=>whnf
 cases h;exact ⟨⟨rfl,rfl⟩,hI6 _ rfl⟩
 conv=>whnf
 cases h;exact ⟨⟨rfl,rfl⟩,hI6 _ rfl⟩
 conv=>whnf
 cases h;obtain rfl:=hR6 _ rfl;exact hK
end Go.Proofs.YtjepimjoknccmaaGreatDoor
