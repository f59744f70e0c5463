/-
  The functions keep their contracts, if what they call does. Printed by program.
-/
import Derived.Test.YtjepimjoknccmaaGreatDoorM
import Derived.KernelRfl
namespace Go.Proofs.YtjepimjoknccmaaGreatDoor
open Go Go.Sx
set_option maxRecDepth 100000
set_option maxHeartbeats 6400000
set_option linter.unusedVariables false
set_option linter.unusedSimpArgs false
structure Ws1:Prop where
 w257:Sq 111 ZF7->Sq 108 c198->Sq 185 ZDT->Sq 166 c236->Sq 112 ZF8->Sq 113 ZF9->Sq 109 ZJb
 w216:Sq 185 ZDT->Sq 278 ZHn->Sq 281 ZIS
 w221:Sq 223 ZIU->Sq 159 ZIV
 w254:Sq 108 c198->Sq 111 ZF7
 w258:Sq 111 ZF7->Sq 108 c198->Sq 185 ZDT->Sq 186 ZHp->Sq 112 ZF8->Sq 113 ZF9->Sq 110 ZJc
 w178:Sq 372 ZIu->Sq 373 ZIw->Sq 356 ZIx
 w182:Sq 373 ZIA->Sq 376 c182
 w224:Sq 224 ZIW
 w186:Sq 316 ZF3->Sq 268 ZID
 w193:Sq 276 ZHl->Sq 226 c148->Sq 179 ZIH->Sq 269 c193
 w190:Sq 270 ZF6->Sq 317 ZIE
 w189:Sq 185 ZDT->Sq 226 c148->Sq 270 ZF6
 w219:Sq 157 c201->Sq 158 c218->Sq 95 ZHo
 w218:Sq 221 ZIO->Sq 222 ZIT->Sq 158 c218
 w237:Sq 166 c236->Sq 108 c198->Sq 98 ZHs
 w214:Sq 322 c213->Sq 279 ZIQ
 w232:Sq 227 ZIY->Sq 164 c232
 w294:Sq 287 ZJI->Sq 241 ZJJ
 w293:Sq 287 ZJI
 w262:Sq 95 ZHo->Sq 96 c228->Sq 101 ZHv->Sq 102 ZJe->Sq 47 ZJf
 w283:Sq 177 ZJx->Sq 178 ZJy->Sq 105 ZJz
 w153:Sq 230 ZFH->Sq 358 c152->Sq 316 ZF3
 w160:Sq 179 c159->Sq 175 c160
 w157:Sq 226 c148->Sq 237 c157
 w239:Sq 100 ZHt
 w302:Sq 335 ZFI
 w273:Sq 234 ZJo->Sq 233 ZJp
 w278:Sq 167 c229->Sq 233 ZJp->Sq 235 ZJq->Sq 236 ZJt->Sq 174 ZJu
 w284:Sq 239 ZJA
 w161:Sq 176 ZF4
 w241:Sq 168 ZHu
 w187:Sq 276 ZHl
 w206:Sq 229 c206
 w156:Sq 160 c156
 w188:Sq 185 ZDT
 w307:Sq 366 ZJS
 w204:Sq 359 c203->Sq 319 ZIM
 w292:Sq 285 ZJG->Sq 240 ZJH
 w279:Sq 157 c201->Sq 171 ZJk->Sq 96 c228->Sq 101 ZHv->Sq 172 ZJm->Sq 97 ZHr->Sq 173 ZJn->Sq 174 ZJu->Sq 103 ZJv
 w270:Sq 232 ZJl->Sq 175 c160->Sq 176 ZF4->Sq 172 ZJm
 w338:Sq 53 ZKc->Sq 54 ZKi->Sq 55 ZKj->Sq 18 ZKk
 w316:Sq 51 ZJ1
 w327:Sq 252 ZJ5->Sq 253 ZJ9->Sq 17 ZDU->Sq 191 ZKa
 w328:Sq 191 ZKa->Sq 118 ZKb
 w331:Sq 192 ZKd->Sq 119 ZKe
 w322:Sq 302 ZJ4->Sq 252 ZJ5
 w323:Sq 17 ZDU->Sq 368 ZJ6
 w319:Sq 51 ZJ1->Sq 52 ZJ2->Sq 16 ZJ3
 w361:Sq 64 ZKF
 w364:Sq 27 ZKI
 w354:Sq 58 ZKs->Sq 59 ZKw->Sq 60 ZKx->Sq 21 ZKy
 w350:Sq 194 ZDV->Sq 124 ZKu
 w345:Sq 25 ZDt->Sq 254 ZKp
 w342:Sq 194 ZDV
 w360:Sq 62 ZKC->Sq 63 ZKD->Sq 24 ZKE
 w11:Sq 127 c10->Sq 67 c11
 w9:Sq 66 c8->Sq 28 c9
 w13:Sq 128 c13
 w14:Sq 128 c13->Sq 69 c14
 w21:Sq 7 c21
 w30:Sq 314 c29->Sq 266 c30
 w43:Sq 39 c34->Sq 40 c40->Sq 41 c42->Sq 10 c43
 w49:Sq 44 c49
 w33:Sq 154 c32->Sq 89 c33
 w45:Sq 12 c45
 w40:Sq 90 c36->Sq 91 c37->Sq 92 c39->Sq 40 c40
 w44:Sq 42 c41->Sq 11 c44
 w26:Sq 265 c25->Sq 217 c26
 w47:Sq 94 c46->Sq 43 c47
 w48:Sq 43 c47->Sq 13 c48
 w46:Sq 94 c46
 w37:Sq 91 c37
 w29:Sq 354 c28->Sq 314 c29
 w41:Sq 93 c27->Sq 42 c41
 w42:Sq 42 c41->Sq 41 c42
 w281:Sq 177 ZJx
 w282:Sq 178 ZJy
 w181:Sq 386 ZIz->Sq 373 ZIA
 w289:Sq 238 ZJD->Sq 179 ZJE
 w152:Sq 324 ZHk->Sq 358 c152
 w203:Sq 359 c203
 w288:Sq 181 ZJC->Sq 238 ZJD
 w195:Sq 272 c194->Sq 318 ZII
 w147:Sq 34 c87->Sq 35 c107->Sq 37 ZF2->Sq 38 ZH8->Sq 36 c146->Sq 9 ZIm
 w69:Sq 199 c65->Sq 153 c67->Sq 200 c68->Sq 129 c69
 w111:Sq 134 c53->Sq 203 c52->Sq 140 ZG9
 w62:Sq 305 c61->Sq 257 c62
 w56:Sq 399 c55->Sq 134 c53->Sq 392 c56
 w57:Sq 392 c56->Sq 381 c57
 w55:Sq 134 c53->Sq 399 c55
 w90:Sq 151 c90
 w93:Sq 151 c90->Sq 264 c92->Sq 216 c93
 w94:Sq 216 c93->Sq 149 c94
 w92:Sq 313 c91->Sq 264 c92
 w54:Sq 203 c52->Sq 134 c53->Sq 347 c54
 w75:Sq 260 c75
 w112:Sq 80 c66->Sq 209 ZH9
 w95:Sq 151 c90->Sq 150 c95
 w138:Sq 353 c138
 w135:Sq 352 ZHi->Sq 310 c131->Sq 308 ZIg
 w101:Sq 153 c67->Sq 85 ZF1
 w73:Sq 202 c73
 w98:Sq 80 c66->Sq 153 c67->Sq 83 c98
 w71:Sq 80 c66->Sq 134 c53->Sq 131 c71
 w103:Sq 83 c98->Sq 153 c67->Sq 80 c66->Sq 84 c99->Sq 151 c90->Sq 85 ZF1->Sq 82 ZH5
 w79:Sq 80 c66->Sq 201 c72->Sq 202 c73->Sq 203 c52->Sq 204 c74->Sq 205 c76->Sq 206 c78->Sq 153 c67->Sq 200 c68->Sq 132 c79
 w114:Sq 211 ZHa->Sq 208 ZIa
 w81:Sq 80 c66->Sq 133 c81
 w121:Sq 213 ZIc
 w113:Sq 211 ZHa
 w129:Sq 80 c66->Sq 350 ZHe->Sq 306 ZHf
 w136:Sq 311 ZIh
 w133:Sq 80 c66->Sq 309 ZHh
 w123:Sq 129 c69->Sq 140 ZG9->Sq 207 ZHb->Sq 72 c84->Sq 145 ZHd->Sq 141 ZId
 w83:Sq 136 c83
 w141:Sq 262 ZIi->Sq 263 ZIj->Sq 214 c141
 w126:Sq 146 ZIf
 w145:Sq 143 c116->Sq 144 ZHc->Sq 145 ZHd->Sq 146 ZIf->Sq 133 c81->Sq 88 c109->Sq 147 c143->Sq 135 c82->Sq 148 ZIl->Sq 78 c145
set_option maxHeartbeats 100000000 in
theorem ws1:Ws1:=by
 refine ⟨(λq1 q2 q3 q0 q5 q4=>G8 YX (Zd q1 (Zd q2 (Zd q3 (Zd q0 (Zd q5 (Zd q4 Zi)))))) {draws:=[(2,[],.u 0 4 (.o [5,6] (.alt 4 (.o [7,8] (.a [9,10] .done)) (.a [9,4] (.o [7,8] (.d 10)))))),(4,[],.u 0 5 (.u 6 5 (.a [5,11] (.o [12,13] .done)))),(5,[],.u 0 13 (.alt 13 (.op 14 (.a [15,16] (.o [17,18,19] (.d 20)))) .done)),(6,[],.u 0 8 (.a [8,9] (.o [10,11,12] (.d 13))))]} Tryz.func109 ?_),
 (λq0 q1=>G8 Zn (Zd q0 (Zd q1 Zi)) {draws:=[(6,[],.u 0 7 (.alt 7 (.u 8 27 .done) .done))]} Tryz.func281 ?_),
 (λq0=>G8 Zn (Zd q0 Zi) {loops:=[(0,[.reg 7 (.own (.ol 224 (.flat (ZcZ)))),.reg 21 (.dat Iq)]),(2,[.reg 7 (.own (.ol 224 (.flat (ZcZ)))),.reg 29 (.dat Iq)])]} Tryz.func159 ?_),
 (λq0=>G8 Zn (Zd q0 Zi) {loops:=[(0,[.reg 16 (.dat Iq),.entm 1 (Zxq.ty) (Zxq.ety),.ent 2 (nat_lit 3) (.flat Zu2.ety)])],draws:=[(7,[],.u 0 20 (.d 20))]} Tryz.func111 ?_),
 (λq0 q1 q2 q4 q5 q3=>G8 ZBu (Zd q0 (Zd q1 (Zd q2 (Zd q4 (Zd q5 (Zd q3 Zi)))))) {draws:=[(4,[],.u 0 10 (.alt 10 (.op 11 (.alt 12 (.u 13 4 (.a [17,18] .done)) (.a [17,12] (.u 13 4 (.d 18))))) (.a [17,10] (.op 11 (.alt 12 (.u 13 4 (.d 18)) .done))))),(6,[],.o [0,2,3,4] (.alt 1 (.a [5,6] .done) (.a [5,1,6] .done))),(7,[],.u 0 13 (.d 13)),(9,[],.u 0 13 (.alt 13 (.o [14,15,16] (.d 17)) .done)),(10,[],.u 0 11 (.alt 11 (.o [12,13] (.d 14)) .done))]} Tryz.func110 ?_),
 (λq1 q0=>G8 Zn (Zd q1 (Zd q0 Zi)) {loops:=[(0,[.reg 8 (.dat Iq)])]} Tryz.func356 ?_),
 (λq0=>G8 Zn (Zd q0 Zi) {} Tryz.func376 ?_),
 (G8 Zn Zi {draws:=[(3,[],.u 0 18 .done)]} Tryz.func224 ?_),
 (λq0=>G8 Zn (Zd q0 Zi) {loops:=[(0,[.reg 3 (.own (.ol 9 (.flat (.str)))),.reg 12 (.dat Iq)]),(2,[.reg 4 (.own (.ol 9 (.flat (.str)))),.reg 25 (.dat Iq)])]} Tryz.func268 ?_),
 (λq1 q2 q0=>G8 Zn (Zd q1 (Zd q2 (Zd q0 Zi))) {draws:=[(1,[],.u 0 4 (.alt 4 (.op 5 (.alt 6 (.u 7 18 (.alt 25 (.o [26,27,28] .done) .done)) .done)) .done))]} Tryz.func269 ?_),
 (λq0=>G8 Zn (Zd q0 Zi) {} Tryz.func317 ?_),
 (λq0 q1=>G8 Zn (Zd q0 (Zd q1 Zi)) {} Tryz.func270 ?_),
 (λq1 q0=>G8 Zn (Zd q1 (Zd q0 Zi)) {} Tryz.func95 ?_),
 (λq1 q0=>G8 Zn (Zd q1 (Zd q0 Zi)) {} Tryz.func158 ?_),
 (λq0 q1=>G8 Zn (Zd q0 (Zd q1 Zi)) {loops:=[(0,[.reg 5 (.own (.ol 2 (.flat Iq))),.reg 19 (.dat Iq)])]} Tryz.func98 ?_),
 (λq0=>G8 Zn (Zd q0 Zi) {} Tryz.func279 ?_),
 (λq0=>G8 Zn (Zd q0 Zi) {} Tryz.func164 ?_),
 (λq0=>G8 Zn (Zd q0 Zi) {draws:=[(2,[],.o [0,1,2,5] (.alt 3 (.alt 4 (.alt 6 (.o [7,8] (.alt 9 (.o [10,11] (.d 12)) .done)) .done) (.alt 6 (.o [7,8] (.alt 4 (.alt 9 (.o [10,11] (.d 12)) .done) (.a [9,4] (.o [10,11] (.d 12))))) .done)) (.alt 4 (.alt 3 (.alt 6 (.o [7,8] (.alt 9 (.o [10,11] (.d 12)) .done)) .done) (.a [6,3] (.o [7,8] (.alt 9 (.o [10,11] (.d 12)) .done)))) (.alt 6 (.alt 3 (.o [7,8] (.alt 4 (.alt 9 (.o [10,11] (.d 12)) .done) (.a [9,4] (.o [10,11] (.d 12))))) (.a [4,3] (.o [7,8] (.alt 9 (.o [10,11] (.d 12)) .done)))) .done)))),(3,[],.u 0 7 (.u 8 5 (.a [7,13] (.o [14,15] (.alt 16 (.o [17,18] (.d 19)) .done)))))]} Tryz.func241 ?_),
 (G8 Zn Zi {} Tryz.func287 ?_),
 (λq2 q3 q1 q0=>G8 Zn (Zd q2 (Zd q3 (Zd q1 (Zd q0 Zi)))) {draws:=[(4,[],.o [0,2] (.a [1,3] (.op 4 .done)))]} Tryz.func47 ?_),
 (λq1 q0=>G8 Zn (Zd q1 (Zd q0 Zi)) {draws:=[(1,[],.o [0,1,3,4,6,7] (.a [2,5,8] (.op 9 (.d 10))))]} Tryz.func105 ?_),
 (λq1 q0=>G8 Zn (Zd q1 (Zd q0 Zi)) {loops:=[(0,[.reg 7 (.dat Iq)])]} Tryz.func316 ?_),
 (λq0=>G8 Zn (Zd q0 Zi) {} Tryz.func175 ?_),
 (λq0=>G8 Zn (Zd q0 Zi) {} Tryz.func237 ?_),
 (G8 Zn Zi {} Tryz.func100 ?_),
 (G8 Zn Zi {draws:=[(1,[],.u 0 8 .done)]} Tryz.func335 ?_),
 (λq0=>G8 Zn (Zd q0 Zi) {loops:=[(0,[.reg 5 (.own (.ol 2 (.flat Iq))),.reg 16 (.dat Iq)])]} Tryz.func233 ?_),
 (λq2 q0 q1 q3=>G8 Zn (Zd q2 (Zd q0 (Zd q1 (Zd q3 Zi)))) {loops:=[(0,[.reg 20 (.dat Iq),.ent 0 (nat_lit 3) (.flat Zu2.ety)]),(2,[.reg 7 (.own (.ol 2 (.flat Iq))),.reg 43 (.dat Iq),.ent 0 (nat_lit 3) (.flat Zu2.ety)]),(4,[.reg 60 (.dat Iq),.ent 0 (nat_lit 3) (.flat Zu2.ety)])]} Tryz.func174 ?_),
 (G8 Zn Zi {} Tryz.func239 ?_),
 (G8 Zn Zi {loops:=[(0,[.reg 3 (.dat Iq)])],draws:=[(4,[],.u 0 10 .done)]} Tryz.func176 ?_),
 (G8 Zn Zi {} Tryz.func168 ?_),
 (G8 Zn Zi {} Tryz.func276 ?_),
 (G8 Zn Zi {} Tryz.func229 ?_),
 (G8 Zn Zi {} Tryz.func160 ?_),
 (G8 Zn Zi {} Tryz.func185 ?_),
 (G8 Zn Zi {loops:=[(0,[.reg 3 (.dat Iq),.reg 4 (.dat Iq)])]} Tryz.func366 ?_),
 (λq0=>G8 Zn (Zd q0 Zi) {} Tryz.func319 ?_),
 (λq0=>G8 Zn (Zd q0 Zi) {} Tryz.func240 ?_),
 (λq6 q5 q7 q1 q2 q0 q3 q4=>G8 Zn (Zd q6 (Zd q5 (Zd q7 (Zd q1 (Zd q2 (Zd q0 (Zd q3 (Zd q4 Zi)))))))) {} Tryz.func103 ?_),
 (λq0 q2 q1=>G8 Zn (Zd q0 (Zd q2 (Zd q1 Zi))) {} Tryz.func172 ?_),
 (λq0 q1 q2=>G8 Zn (Zd q0 (Zd q1 (Zd q2 Zi))) {} Tryz.func18 ?_),
 (G8 Zn Zi {loops:=[(0,[.reg 5 (.dat Iq)])],draws:=[(6,[],.u 0 9 .done)]} Tryz.func51 ?_),
 (λq1 q2 q0=>G8 Zn (Zd q1 (Zd q2 (Zd q0 Zi))) {} Tryz.func191 ?_),
 (λq0=>G8 Zn (Zd q0 Zi) {loops:=[(0,[.reg 5 (.dat Iq)])],draws:=[(6,[],.u 0 8 (.alt 8 (.op 9 .done) .done))]} Tryz.func118 ?_),
 (λq0=>G8 Zn (Zd q0 Zi) {loops:=[(0,[.reg 5 (.dat Iq)])],draws:=[(6,[],.u 0 8 (.alt 8 (.op 9 .done) .done))]} Tryz.func119 ?_),
 (λq0=>G8 Zn (Zd q0 Zi) {loops:=[(0,[.reg 5 (.dat Iq)])],draws:=[(6,[],.u 0 8 (.alt 8 (.op 9 .done) .done))]} Tryz.func252 ?_),
 (λq0=>G8 Zn (Zd q0 Zi) {} Tryz.func368 ?_),
 (λq0 q1=>G8 Zn (Zd q0 (Zd q1 Zi)) {} Tryz.func16 ?_),
 (G8 Zn Zi {loops:=[(0,[.reg 1 (.dat Iq),.reg 5 (.dat Iq)])]} Tryz.func64 ?_),
 (G8 Zn Zi {loops:=[(0,[.reg 1 (.dat Iq),.reg 5 (.dat Iq)])]} Tryz.func27 ?_),
 (λq0 q1 q2=>G8 YX (Zd q0 (Zd q1 (Zd q2 Zi))) {} Tryz.func21 ?_),
 (λq0=>G8 YX (Zd q0 Zi) {loops:=[(0,[.reg 1 (.dat Iq),.reg 5 (.dat Iq),.ent 0 (nat_lit 9) (.flat Ty.str)])]} Tryz.func124 ?_),
 (λq0=>G8 YX (Zd q0 Zi) {loops:=[(0,[.reg 1 (.dat Iq),.reg 5 (.dat Iq),.ent 0 (nat_lit 353) (Dp.pair (Dp.ol (2:Go.TypeId) (Dp.flat (Ty.int IntKind.i64))) (Dp.pair (Dp.ol (2:Go.TypeId) (Dp.flat (Ty.int IntKind.i64))) (Dp.pair (Dp.ol (2:Go.TypeId) (Dp.flat (Ty.int IntKind.i64))) (Dp.flat Ty.unit))))])]} Tryz.func254 ?_),
 (G8 Zn Zi {loops:=[(0,[.reg 0 (.dat Iq),.reg 3 (.dat (.str))])]} Tryz.func194 ?_),
 (λq0 q1=>G8 YX (Zd q0 (Zd q1 Zi)) {} Tryz.func24 ?_),
 (λq0=>G8 Zn (Zd q0 Zi) {loops:=[(0,[.reg 1 (.dat Iq),.reg 5 (.dat Iq)])]} Tryz.func67 ?_),
 (λq0=>G8 Zn (Zd q0 Zi) {} Tryz.func28 ?_),
 (G8 Zn Zi {} Tryz.func128 ?_),
 (λq0=>G8 Zn (Zd q0 Zi) {loops:=[(0,[.reg 1 (.dat Iq),.reg 5 (.dat Iq)])]} Tryz.func69 ?_),
 (G8 Zn Zi {} Tryz.func7 ?_),
 (λq0=>G8 YX (Zd q0 Zi) {} Tryz.func266 ?_),
 (λq0 q1 q2=>G8 YX (Zd q0 (Zd q1 (Zd q2 Zi))) {} Tryz.func10 ?_),
 (G8 Zn Zi {loops:=[(0,[.reg 4 (.dat Iq),.ent 0 (nat_lit 4) (.flat ZBS.ety)])]} Tryz.func44 ?_),
 (λq0=>G8 YX (Zd q0 Zi) {loops:=[(0,[.reg 4 (.dat Iq),.ent 0 (nat_lit 236) Zqi])]} Tryz.func89 ?_),
 (G8 Zn Zi {} Tryz.func12 ?_),
 (λq0 q1 q2=>G8 YX (Zd q0 (Zd q1 (Zd q2 Zi))) {} Tryz.func40 ?_),
 (λq0=>G8 Zn (Zd q0 Zi) {} Tryz.func11 ?_),
 (λq0=>G8 Zn (Zd q0 Zi) {loops:=[(0,[.reg 4 (.dat Iq),.ent 0 (nat_lit 311) (.flat ZDe.ety)])]} Tryz.func217 ?_),
 (λq0=>G8 Zn (Zd q0 Zi) {} Tryz.func43 ?_),
 (λq0=>G8 Zn (Zd q0 Zi) {loops:=[(0,[.reg 4 (.dat Iq),.ent 0 (nat_lit 106) (.flat ZHW.ety)])]} Tryz.func13 ?_),
 (G8 Zn Zi {} Tryz.func94 ?_),
 (G8 Zn Zi {loops:=[(0,[.reg 4 (.dat Iq),.ent 0 (nat_lit 9) (.flat ZHT.ety)])]} Tryz.func91 ?_),
 (λq0=>G8 YX (Zd q0 Zi) {loops:=[(0,[.reg 4 (.dat Iq),.ent 0 (nat_lit 353) ZgI])]} Tryz.func314 ?_),
 (λq0=>G8 Zn (Zd q0 Zi) {} Tryz.func42 ?_),
 (λq0=>G8 YX (Zd q0 Zi) {loops:=[(0,[.reg 4 (.dat Iq),.ent 0 (nat_lit 66) Zmr])]} Tryz.func41 ?_),
 (G8 Zn Zi {} Tryz.func177 ?_),
 (G8 Zn Zi {} Tryz.func178 ?_),
 (λq0=>G8 Zn (Zd q0 Zi) {} Tryz.func373 ?_),
 (λq0=>G8 Zn (Zd q0 Zi) {} Tryz.func179 ?_),
 (λq0=>G8 Zn (Zd q0 Zi) {} Tryz.func358 ?_),
 (G8 Zn Zi {loops:=[(0,[.reg 13 (.dat Iq)])],draws:=[(6,[],.u 0 9 .done)]} Tryz.func359 ?_),
 (λq0=>G8 Zn (Zd q0 Zi) {loops:=[(0,[.reg 8 (.dat Iq)])]} Tryz.func238 ?_),
 (λq0=>G8 Zn (Zd q0 Zi) {loops:=[(0,[.reg 8 (.dat Iq)])]} Tryz.func318 ?_),
 (λq0 q2 q3 q4 q1=>G8 Zn (Zd q0 (Zd q2 (Zd q3 (Zd q4 (Zd q1 Zi))))) {draws:=[(7,[],.o [0,1] (.u 3 5 (.a [2,8,9] (.o [10,11,12] (.alt 13 (.o [14,15] .done) .done)))))]} Tryz.func9 ?_),
 (λq0 q1 q2=>G8 Zn (Zd q0 (Zd q1 (Zd q2 Zi))) {loops:=[(0,[.reg 3 (.dat Iq)])],draws:=[(6,[],.u 0 8 (.alt 8 (.op 9 (.alt 10 (.op 11 .done) .done)) .done))]} Tryz.func129 ?_),
 (λq1 q0=>G8 Zn (Zd q1 (Zd q0 Zi)) {loops:=[(0,[.reg 4 (.dat Iq)])]} Tryz.func140 ?_),
 (λq0=>G8 Zn (Zd q0 Zi) {loops:=[(0,[.reg 3 (.dat Iq)]),(2,[.reg 4 (.dat Iq)])],draws:=[(9,[],.u 0 13 .done)]} Tryz.func257 ?_),
 (λq0 q1=>G8 Zn (Zd q0 (Zd q1 Zi)) {loops:=[(0,[.reg 3 (.dat Iq)])]} Tryz.func392 ?_),
 (λq0=>G8 Zn (Zd q0 Zi) {loops:=[(0,[.reg 5 (.dat Iq),.cell 1004 0 Iq,.cell 1004 1 Iq])],draws:=[(3,[],.u 0 9 (.a [9,10] .done)),(7,[],.u 0 9 (.d 9)),(8,[],.u 0 9 (.d 9))]} Tryz.func381 ?_),
 (λq0=>G8 Zn (Zd q0 Zi) {loops:=[(0,[.reg 3 (.dat Iq)])],draws:=[(4,[],.u 0 4 (.alt 4 (.u 5 17 .done) .done))]} Tryz.func399 ?_),
 (G8 Zn Zi {} Tryz.func151 ?_),
 (λq1 q0=>G8 YX (Zd q1 (Zd q0 Zi)) {loops:=[(0,[.reg 4 (.dat Iq),.cello 1003 3 (.ol 280 (Zzv))])],draws:=[(1,[],.o [0,2,5,6,8,11,13] (.l [1,3,9,12,14] (.alt 4 (.alt 7 (.alt 10 (.op 15 (.a [16,17] .done)) (.a [16,10] (.op 15 (.d 17)))) (.a [16,7,10] (.op 15 (.d 17)))) (.a [16,4,7,10] (.op 15 (.d 17))))))]} Tryz.func216 ?_),
 (λq0=>G8 YX (Zd q0 Zi) {loops:=[(0,[.reg 4 (.dat Iq),.cello 1003 0 (.ol 236 (Zqi))])],draws:=[(5,[],.u 0 7 (.a [7,8,9] (.op 10 (.d 11))))]} Tryz.func149 ?_),
 (λq0=>G8 YX (Zd q0 Zi) {loops:=[(0,[.reg 3 (.own (.ol 353 (ZgI))),.reg 4 (.dat Iq)])]} Tryz.func264 ?_),
 (λq0 q1=>G8 Zn (Zd q0 (Zd q1 Zi)) {loops:=[(0,[.reg 5 (.dat Iq),.reg 6 (.dat Iq)]),(2,[.reg 8 (.dat Iq)])],draws:=[(12,[],.u 0 9 .done)]} Tryz.func347 ?_),
 (G8 Zn Zi {loops:=[(0,[.reg 5 (.dat Iq)])]} Tryz.func260 ?_),
 (λq0=>G8 Zn (Zd q0 Zi) {loops:=[(0,[.reg 8 (.dat Iq)])]} Tryz.func209 ?_),
 (λq0=>G8 YX (Zd q0 Zi) {loops:=[(0,[.reg 4 (.dat Iq),.cello 1003 0 (.ol 144 (Zcw))])],draws:=[(1,[],.o [1,2,5] (.ld 6 (.alt 0 (.alt 3 (.alt 4 (.alt 7 (.op 8 (.a [9,10] .done)) (.a [9,7] (.op 8 (.d 10)))) (.a [9,4,7] (.op 8 (.d 10)))) (.alt 4 (.alt 3 (.alt 7 (.op 8 (.a [9,10] .done)) (.a [9,7] (.op 8 (.d 10)))) (.a [9,3,7] (.op 8 (.d 10)))) (.alt 9 (.alt 3 (.a [4,7] (.op 8 (.d 10))) (.a [4,3,7] (.op 8 (.d 10)))) .done))) (.alt 4 (.alt 0 (.alt 3 (.alt 7 (.op 8 (.a [9,10] .done)) (.a [9,7] (.op 8 (.d 10)))) (.a [9,3,7] (.op 8 (.d 10)))) (.a [9,0,3,7] (.op 8 (.d 10)))) (.alt 9 (.alt 0 (.alt 3 (.a [4,7] (.op 8 (.d 10))) (.a [4,3,7] (.op 8 (.d 10)))) (.a [4,0,3,7] (.op 8 (.d 10)))) .done)))))]} Tryz.func150 ?_),
 (G8 Zn Zi {loops:=[(0,[.reg 5 (.dat Iq),.reg 6 (.dat Iq)])]} Tryz.func353 ?_),
 (λq0 q1=>G8 Zn (Zd q0 (Zd q1 Zi)) {loops:=[(0,[.reg 8 (.own (.ol 2 (.flat Iq))),.reg 9 (.dat Iq)])]} Tryz.func308 ?_),
 (λq0=>G8 YX (Zd q0 Zi) {loops:=[(0,[.reg 5 (.dat Iq),.ent 4 (nat_lit 66) (Dp.pair (Dp.ol (2:Go.TypeId) (Dp.flat (Ty.int IntKind.i64))) (Dp.pair (Dp.ol (2:Go.TypeId) (Dp.flat (Ty.int IntKind.i64))) (Dp.pair (Dp.ol (2:Go.TypeId) (Dp.flat (Ty.int IntKind.i64))) (Dp.pair (Dp.ol (2:Go.TypeId) (Dp.flat (Ty.int IntKind.i64))) (Dp.flat Ty.unit)))))]),(2,[.reg 6 (.own (.ol 2 (.flat Iq))),.reg 8 (.dat Iq)])]} Tryz.func85 ?_),
 (G8 Zn Zi {} Tryz.func202 ?_),
 (λq0 q1=>G8 Zn (Zd q0 (Zd q1 Zi)) {loops:=[(0,[.reg 4 (.dat Iq),.ent 2 (nat_lit 2) (.flat ZzA.ety)]),(2,[.reg 6 (.dat Iq),.ent 2 (nat_lit 2) (.flat ZzA.ety)])],draws:=[(9,[],.u 0 15 (.d 15))]} Tryz.func83 ?_),
 (λq0 q1=>G8 Zn (Zd q0 (Zd q1 Zi)) {draws:=[(9,[],.u 0 4 (.alt 4 (.u 5 5 (.alt 10 (.u 11 13 (.alt 24 (.o [25,26] .done) .done)) .done)) .done))]} Tryz.func131 ?_),
 (λq3 q4 q1 q0 q5 q2=>G8 ZBu (Zd q3 (Zd q4 (Zd q1 (Zd q0 (Zd q5 (Zd q2 Zi)))))) {draws:=[(7,[],.u 0 4 (.op 5 (.u 8 9 (.alt 4 (.o [6,7] (.d 17)) .done)))),(8,[],.o [0,1,2,5,6] (.alt 3 (.alt 4 (.a [7,8] (.op 9 .done)) (.a [7,4,8] (.op 9 .done))) (.a [7,3,4,8] (.op 9 .done)))),(9,[],.u 0 4 (.u 5 4 (.o [10,11,12] (.alt 4 (.alt 9 (.op 13 (.a [14,15] .done)) (.a [14,9] (.op 13 (.d 15)))) (.alt 9 (.alt 4 (.op 13 (.a [14,15] .done)) (.a [14,4] (.op 13 (.d 15)))) (.alt 14 (.alt 4 (.alt 9 (.op 13 (.d 15)) .done) (.a [9,4] (.op 13 (.d 15)))) .done)))))),(10,[],.u 0 6 (.op 8 (.alt 6 (.op 7 (.a [9,10] .done)) .done)))]} Tryz.func82 ?_),
 (λq1 q3 q2 q6 q0 q4 q7 q5 q8=>G8 Zn (Zd q1 (Zd q3 (Zd q2 (Zd q6 (Zd q0 (Zd q4 (Zd q7 (Zd q5 (Zd q8 Zi))))))))) {draws:=[(5,[],.u 0 28 (.alt 28 (.o [29,30] .done) .done)),(11,[],.u 0 19 .done),(12,[],.u 0 6 (.alt 6 (.op 7 (.alt 8 (.op 9 .done) .done)) .done))]} Tryz.func132 ?_),
 (λq0=>G8 YX (Zd q0 Zi) {loops:=[(0,[.reg 0 (.own (.ol 224 (.flat (ZcZ)))),.reg 11 (.dat Iq)]),(2,[.reg 0 (.own (.ol 224 (.flat (ZcZ)))),.reg 12 (.dat Iq)])]} Tryz.func208 ?_),
 (λq0=>G8 Zn (Zd q0 Zi) {} Tryz.func133 ?_),
 (G8 Zn Zi {loops:=[(0,[.reg 8 (.own (.ol 2 (.flat Iq))),.ent 1 (nat_lit 4) (.flat ZBS.ety)]),(2,[.reg 11 (.dat Iq),.ent 3 (nat_lit 4) (.flat ZBS.ety)]),(4,[.reg 12 (.dat Iq)])]} Tryz.func213 ?_),
 (G8 YX Zi {} Tryz.func211 ?_),
 (λq0 q1=>G8 Zn (Zd q0 (Zd q1 Zi)) {draws:=[(1,[],.o [0,1,3,4,5] (.alt 2 (.o [6,7] (.a [8,9] .done)) (.a [8,2] (.o [6,7] (.d 9))))),(2,[],.u 0 21 (.alt 21 (.op 22 (.alt 23 (.alt 24 (.op 25 .done) .done) (.a [24,23] (.op 25 .done)))) .done))]} Tryz.func306 ?_),
 (G8 Zn Zi {} Tryz.func311 ?_),
 (λq0=>G8 Zn (Zd q0 Zi) {draws:=[(1,[],.o [0,1,3,4,5] (.alt 2 (.u 6 4 .done) .done))]} Tryz.func309 ?_),
 (λq3 q2 q4 q1 q0=>G8 Zn (Zd q3 (Zd q2 (Zd q4 (Zd q1 (Zd q0 Zi))))) {} Tryz.func141 ?_),
 (G8 Zn Zi {} Tryz.func136 ?_),
 (λq0 q1=>G8 Zn (Zd q0 (Zd q1 Zi)) {draws:=[(1,[],.u 0 5 (.u 6 5 (.alt 5 (.alt 11 (.op 12 (.a [13,14] .done)) (.a [13,11] (.op 12 (.d 14)))) (.a [13,5,11] (.op 12 (.d 14)))))),(2,[],.u 0 4 (.u 5 4 (.alt 4 (.alt 9 (.op 10 (.a [11,12] .done)) (.a [11,9] (.op 10 (.d 12)))) (.a [11,4,9] (.op 10 (.d 12)))))),(3,[],.u 0 7 (.alt 7 (.o [8,9] (.d 10)) .done)),(4,[],.u 0 7 (.alt 7 (.o [8,9] (.d 10)) .done)),(5,[],.u 0 6 (.alt 6 (.o [7,8] (.d 9)) .done)),(6,[],.u 0 6 (.alt 6 (.o [7,8] (.d 9)) .done)),(7,[],.op 0 (.alt 1 (.a [2,3] .done) (.a [2,1,3] .done)))]} Tryz.func214 ?_),
 (G8 Zn Zi {draws:=[(1,[],.o [1,2,5,9] (.l [6,10] (.alt 0 (.alt 3 (.alt 4 (.alt 7 (.a [8,11] (.op 12 (.d 13))) (.a [8,7,11] (.op 12 (.d 13)))) (.a [8,4,7,11] (.op 12 (.d 13)))) (.alt 4 (.alt 3 (.alt 7 (.a [8,11] (.op 12 (.d 13))) (.a [8,7,11] (.op 12 (.d 13)))) (.a [8,3,7,11] (.op 12 (.d 13)))) (.alt 8 (.alt 3 (.a [4,7,11] (.op 12 (.d 13))) (.a [4,3,7,11] (.op 12 (.d 13)))) .done))) (.alt 4 (.alt 0 (.alt 3 (.alt 7 (.a [8,11] (.op 12 (.d 13))) (.a [8,7,11] (.op 12 (.d 13)))) (.a [8,3,7,11] (.op 12 (.d 13)))) (.a [8,0,3,7,11] (.op 12 (.d 13)))) (.alt 8 (.alt 0 (.alt 3 (.a [4,7,11] (.op 12 (.d 13))) (.a [4,3,7,11] (.op 12 (.d 13)))) (.a [4,0,3,7,11] (.op 12 (.d 13)))) .done)))))]} Tryz.func146 ?_),
 (λq1 q3 q0 q5 q2 q6 q4 q7 q8=>G8 Zn (Zd q1 (Zd q3 (Zd q0 (Zd q5 (Zd q2 (Zd q6 (Zd q4 (Zd q7 (Zd q8 Zi))))))))) {loops:=[(0,[.reg 21 (.own (.ol 2 (.flat Iq))),.reg 22 (.dat Iq),.cello 3 0 (.ol 4 (.flat (.bool))),.cello 3 1 (.ol 104 (.flat (YU))),.cello 3 2 (.ol 104 (.flat (YU))),.ent 7 (nat_lit 4) (.flat Ty.bool),.ent 8 (nat_lit 104) (.flat YU),.ent 9 (nat_lit 104) (.flat YU),.ent 11 (nat_lit 4) (.flat ZBS.ety)]),(2,[.reg 24 (.dat (.bool)),.reg 25 (.dat Iq)])]} Tryz.func78 ?_)⟩
 all_goals
  intro a;repeat rcases a with ⟨_,a⟩
  rintro K ⟨r,h,hK⟩;repeat'
    conv=>whnf
    first
    | with_reducible refine Ziq ?_
    | with_reducible refine ZoQ (by assumption) (by assumption) (by assumption) ?_
    | with_reducible refine ZaC (by assumption) ?_
    | with_reducible refine ZoW (by assumption) ?_
    | (with_reducible refine shD ?_);first | refine Zlo h (λh=>?_) (λh=>?_) | refine ZDg h (λh=>?_) (λh=>?_)
    | (with_reducible refine ZEE ?_);first | refine ZBD ?_ | refine ZqW ?_
    | (with_reducible refine ZK3 ?_);first | refine Zwo h (λh=>?_) (λh=>?_) | refine ZFy h (λh=>?_) (λh=>?_)
    | (with_reducible refine ZED ?_);(refine ⟨λhd=>?_,?_⟩)<;>try subst hd
    | (with_reducible refine ZK5 ?_);first | with_reducible refine QL h (λx hb h=>?_) | refine ZoW (by assumption) ?_ | with_reducible refine pG h (λhp h=>?_) | with_reducible refine pA h (λx ha hb hx h=>?_) | with_reducible refine pB h (λx hb h=>?_) | refine QL h (λx hb h=>?_)
    | (with_reducible refine ZK2 ?_);first | with_reducible refine vAt h (λx ha hb hx h=>?_) | refine ZoQ (by assumption) (by assumption) (by assumption) ?_ | with_reducible refine pG h (λhp h=>?_) | with_reducible refine pA h (λx ha hb hx h=>?_) | with_reducible refine pB h (λx hb h=>?_) | refine vAt h (λx ha hb hx h=>?_)
    | (with_reducible refine ZEC ?_);first | with_reducible refine Zzr h (λx hb h=>?_) | refine ZaC (by assumption) ?_ | with_reducible refine pG h (λhp h=>?_) | with_reducible refine pA h (λx ha hb hx h=>?_) | with_reducible refine pB h (λx hb h=>?_) | refine Zzr h (λx hb h=>?_)
    | with_reducible refine ZK4 ?_
    | (with_reducible refine ZBh ?_);refine ZBC h hK ?_;clear h hK;intro I μ v r h hK;(repeat rcases v with ⟨_,v⟩);(try dsimp only at h)
    | with_reducible refine ⟨by assumption,?_⟩
    | with_reducible refine orL ?_
    | with_reducible refine .inr ?_
    | (with_reducible refine ZEF ?_);first | refine ⟨?_,True.intro⟩ | refine ⟨?_,?_⟩
    | refine ⟨by kernel_rfl,?_⟩
    | refine ⟨by decide,?_⟩
    | with_reducible refine Zvf h (λhp h=>?_)
    | intro fp
    | exact trivial
    | with_reducible exact ZD5 h
    | (refine pS h (λe=>?_));subst e;(repeat (first | exact hK | exact ⟨⟨rfl,rfl⟩,hK.1 _ rfl⟩ | (refine pR hK (λe hK=>?_));subst e));done
    | refine Zvf h (λhp h=>?_)
    | refine ⟨by assumption,?_⟩
    | with_reducible refine pG h (λhp h=>?_) | with_reducible refine pA h (λx ha hb hx h=>?_) | with_reducible refine pB h (λx hb h=>?_)
    | refine pG h (λhp h=>?_)
    | fail
theorem ZPV:Sq 190 ZJh:=by
 refine G8 Zn Zi {loops:=[(0,[.reg 8 (.dat Iq)])]} Tryz.func190 ?_;rintro ⟨s0,v0,⟨⟩⟩ K ⟨r,h,hK⟩
 change Xl s0 v0=some r at h
 unfold Xl at h
 conv=>whnf
 refine Zwp h ?_;rintro I0 μ0 ⟨v1,⟨⟩⟩ zs0 h hI0 hR0
 change Yo s0 v0 v1=some zs0 at h
 unfold Yo at h
 conv=>whnf
 refine Zlo h (λh=>?_) (λh=>?_)
 conv=>whnf
 refine vAt h (λx0 he1a he1b he1x h=>?_)
 conv=>whnf
 refine Zlo h (λh=>?_) (λh=>?_)
 conv=>whnf
 cases h;obtain rfl:=hR0 _ rfl;exact hK
 conv=>whnf
 cases h;exact ⟨⟨rfl,rfl⟩,hI0 _ rfl⟩
 conv=>whnf
 cases h;obtain rfl:=hR0 _ rfl;exact hK
theorem ZPQ:Sq 88 c109:=by
 refine G8 Zn Zi {loops:=[(0,[.reg 5 (.dat Iq)])]} Tryz.func88 ?_;rintro ⟨list0,x0,⟨⟩⟩ K ⟨r,h,hK⟩
 change ZbL list0 x0=some r at h
 unfold ZbL at h
 conv=>whnf
 refine Zwp h ?_;rintro I0 μ0 ⟨i0,⟨⟩⟩ zs0 h hI0 hR0
 change Qf list0 x0 i0=some zs0 at h
 unfold Qf at h
 conv=>whnf
 refine Zlo h (λh=>?_) (λh=>?_)
 conv=>whnf
 refine vAt h (λx1 he1a he1b he1x h=>?_)
 conv=>whnf
 refine Zlo h (λh=>?_) (λh=>?_)
 conv=>whnf
 cases h;obtain rfl:=hR0 _ rfl;exact hK
 conv=>whnf
 cases h;exact ⟨⟨rfl,rfl⟩,hI0 _ rfl⟩
 conv=>whnf
 cases h;obtain rfl:=hR0 _ rfl;exact hK
theorem ZPO (q1:Sq 80 c66) (q4:Sq 83 c98) (q5:Sq 151 c90) (q0:Sq 84 c99) (q2:Sq 152 ZH3) (q3:Sq 85 ZF1):Sq 81 ZH4:=by
 refine G8 YX (Zd q1 (Zd q4 (Zd q5 (Zd q0 (Zd q2 (Zd q3 Zi)))))) {draws:=[(1,[],.o [0,1,3,4] (.alt 2 (.o [5,6] (.a [7,8] .done)) (.a [7,2] (.o [5,6] (.d 8))))),(5,[],.o [0,1] (.u 4 5 (.alt 2 (.alt 3 (.a [9,10] (.op 11 .done)) (.a [9,3,10] (.op 11 .done))) (.a [9,2,3,10] (.op 11 .done))))),(14,[],.u 0 4 (.o [6,7,9,13,14] (.l [8,10,15] (.alt 4 (.alt 5 (.alt 11 (.alt 12 (.op 16 (.a [17,18] .done)) (.a [17,12] (.op 16 (.d 18)))) (.a [17,11,12] (.op 16 (.d 18)))) (.alt 11 (.alt 5 (.alt 12 (.op 16 (.a [17,18] .done)) (.a [17,12] (.op 16 (.d 18)))) (.a [17,5,12] (.op 16 (.d 18)))) (.alt 17 (.alt 5 (.a [11,12] (.op 16 (.d 18))) (.a [11,5,12] (.op 16 (.d 18)))) .done))) (.alt 11 (.alt 4 (.alt 5 (.alt 12 (.op 16 (.a [17,18] .done)) (.a [17,12] (.op 16 (.d 18)))) (.a [17,5,12] (.op 16 (.d 18)))) (.a [17,4,5,12] (.op 16 (.d 18)))) (.alt 17 (.alt 4 (.alt 5 (.a [11,12] (.op 16 (.d 18))) (.a [11,5,12] (.op 16 (.d 18)))) (.a [11,4,5,12] (.op 16 (.d 18)))) .done)))))),(15,[],.o [0,3,4,9] (.l [1,2] (.a [5,6,7] (.op 8 (.a [10,11] .done)))))]} Tryz.func81 ?_;rintro ⟨a0,a1,⟨⟩⟩ K ⟨r,h,hK⟩
 change Zb8 a0 a1=some r at h
 unfold Zb8 at h
 focus
  conv=>whnf
  intro fp0
  conv=>whnf
  intro fp1
  conv=>whnf
  intro fp2
  conv=>whnf
  refine ⟨by kernel_rfl,?_⟩
  conv=>whnf
  obtain ⟨l05Places0,hb3,h⟩:=US.1 h;obtain ⟨x0,he4a,he4b,he4x,h⟩:=atE h;refine ⟨?_,?_⟩;rotate_left
  focus
   conv=>whnf
   refine ⟨_,hb3,?_⟩
   conv=>whnf
   refine ⟨he4a,he4b,ZaC he4x ?_⟩
   conv=>whnf
   refine ⟨by kernel_rfl,?_⟩
   conv=>whnf
   refine ⟨he4a,he4b,ZaC he4x ?_⟩
   conv=>whnf
   refine ⟨trivial,?_⟩
  rotate_right
  focus
   conv=>whnf
   refine ⟨_,hb3,?_⟩
   conv=>whnf
   refine ⟨he4a,he4b,ZaC he4x ?_⟩
   conv=>whnf
   refine ⟨by kernel_rfl,?_⟩
   conv=>whnf
   refine ⟨he4a,he4b,ZaC he4x ?_⟩
   conv=>whnf
   refine ⟨trivial,?_⟩
  all_goals
   focus
    conv=>whnf
    refine QL h (λl08Nodes0 hb5 h=>?_)
    conv=>whnf
    refine ⟨by kernel_rfl,?_⟩
    conv=>whnf
    refine vAt h (λx1 he6a he6b he6x h=>?_)
    conv=>whnf
    refine ⟨by kernel_rfl,?_⟩
    conv=>whnf
    refine ⟨he6a,he6b,ZaC he6x ?_⟩
    conv=>whnf
    obtain ⟨hp7,h⟩:=guardE h;obtain ⟨hp8,h⟩:=guardE h;obtain ⟨l02Ints0,hb9,h⟩:=US.1 h;obtain ⟨hp10,h⟩:=guardE h;refine ⟨?_,?_⟩;rotate_left
    focus
     conv=>whnf
     refine ⟨by decide,?_⟩
     conv=>whnf
     refine ⟨hp7,?_⟩
     conv=>whnf
     refine ⟨hp8,?_⟩
     conv=>whnf
     refine ⟨_,hb9,?_⟩
     conv=>whnf
     refine ⟨hp10,?_⟩
     conv=>whnf
     refine ⟨trivial,?_⟩
    rotate_right
    focus
     conv=>whnf
     refine ⟨by decide,?_⟩
     conv=>whnf
     refine ⟨hp7,?_⟩
     conv=>whnf
     refine ⟨hp8,?_⟩
     conv=>whnf
     refine ⟨?_,?_⟩;rotate_left
     focus
      conv=>whnf
      refine ⟨_,hb9,?_⟩
      conv=>whnf
      refine ⟨hp10,?_⟩
      conv=>whnf
      refine ⟨trivial,?_⟩
     rotate_right
     focus
      conv=>whnf
      refine ⟨_,hb9,?_⟩
      conv=>whnf
      refine ⟨hp10,?_⟩
      conv=>whnf
      refine ⟨trivial,?_⟩
    all_goals
     conv=>whnf
     refine ⟨hp7,?_⟩
     conv=>whnf
     refine ⟨hp8,?_⟩
     conv=>whnf
     refine Zvf h (λhp11 h=>?_)
     conv=>whnf
     refine Zvf h (λhp12 h=>?_)
     conv=>whnf
     refine QL h (λl08Connect0 hb13 h=>?_)
     conv=>whnf
     intro fp14
     conv=>whnf
     refine Zlo h (λh=>?_) (λh=>?_)
     focus
      conv=>whnf
      refine vAt h (λx2 he15a he15b he15x h=>?_)
      conv=>whnf
      refine ⟨by kernel_rfl,?_⟩
      conv=>whnf
      refine ⟨by decide,?_⟩
      conv=>whnf
      refine ⟨he15a,he15b,ZaC he15x ?_⟩
      conv=>whnf
      refine ⟨by kernel_rfl,?_⟩
      conv=>whnf
      refine ⟨by kernel_rfl,?_⟩
      conv=>whnf
      refine ⟨by kernel_rfl,?_⟩
      conv=>whnf
      refine ⟨by kernel_rfl,?_⟩
      conv=>whnf
      obtain ⟨hp17,h⟩:=guardE h;obtain ⟨hp19,h⟩:=guardE h;refine ⟨?_,?_⟩;rotate_left
      focus
       conv=>whnf
       refine ⟨?_,?_⟩;rotate_left
       focus
        conv=>whnf
        refine ⟨?_,?_⟩;rotate_left
        focus
         conv=>whnf
         intro fp29
         conv=>whnf
         refine ⟨by kernel_rfl,?_⟩
         conv=>whnf
         refine ⟨hp17,?_⟩
         conv=>whnf
         intro fp30
         conv=>whnf
         refine ⟨by kernel_rfl,?_⟩
         conv=>whnf
         refine ⟨hp19,?_⟩
         conv=>whnf
         refine ⟨trivial,?_⟩
        rotate_right
        focus
         conv=>whnf
         intro fp29
         conv=>whnf
         refine ⟨?_,?_⟩;rotate_left
         focus
          conv=>whnf
          refine ⟨by kernel_rfl,?_⟩
          conv=>whnf
          refine ⟨hp17,?_⟩
          conv=>whnf
          intro fp30
          conv=>whnf
          refine ⟨by kernel_rfl,?_⟩
          conv=>whnf
          refine ⟨hp19,?_⟩
          conv=>whnf
          refine ⟨trivial,?_⟩
         rotate_right
         focus
          conv=>whnf
          refine ⟨by kernel_rfl,?_⟩
          conv=>whnf
          refine ⟨hp17,?_⟩
          conv=>whnf
          intro fp30
          conv=>whnf
          refine ⟨by kernel_rfl,?_⟩
          conv=>whnf
          refine ⟨hp19,?_⟩
          conv=>whnf
          refine ⟨trivial,?_⟩
       rotate_right
       focus
        conv=>whnf
        refine ⟨?_,?_⟩;rotate_left
        focus
         conv=>whnf
         intro fp29
         conv=>whnf
         refine ⟨by kernel_rfl,?_⟩
         conv=>whnf
         refine ⟨hp17,?_⟩
         conv=>whnf
         intro fp30
         conv=>whnf
         refine ⟨by kernel_rfl,?_⟩
         conv=>whnf
         refine ⟨hp19,?_⟩
         conv=>whnf
         refine ⟨trivial,?_⟩
        rotate_right
        focus
         conv=>whnf
         intro fp29
         conv=>whnf
         refine ⟨?_,?_⟩;rotate_left
         focus
          conv=>whnf
          refine ⟨by kernel_rfl,?_⟩
          conv=>whnf
          refine ⟨hp17,?_⟩
          conv=>whnf
          intro fp30
          conv=>whnf
          refine ⟨by kernel_rfl,?_⟩
          conv=>whnf
          refine ⟨hp19,?_⟩
          conv=>whnf
          refine ⟨trivial,?_⟩
         rotate_right
         focus
          conv=>whnf
          refine ⟨by kernel_rfl,?_⟩
          conv=>whnf
          refine ⟨hp17,?_⟩
          conv=>whnf
          intro fp30
          conv=>whnf
          refine ⟨?_,?_⟩;rotate_left
          focus
           conv=>whnf
           refine ⟨by kernel_rfl,?_⟩
           conv=>whnf
           refine ⟨hp19,?_⟩
           conv=>whnf
           refine ⟨trivial,?_⟩
          rotate_right
          focus
           conv=>whnf
           refine ⟨by kernel_rfl,?_⟩
           conv=>whnf
           refine ⟨hp19,?_⟩
           conv=>whnf
           refine ⟨trivial,?_⟩
      rotate_right
      focus
       conv=>whnf
       intro fp29
       conv=>whnf
       refine ⟨?_,?_⟩;rotate_left
       focus
        conv=>whnf
        refine ⟨?_,?_⟩;rotate_left
        focus
         conv=>whnf
         refine ⟨?_,?_⟩;rotate_left
         focus
          conv=>whnf
          refine ⟨by kernel_rfl,?_⟩
          conv=>whnf
          refine ⟨hp17,?_⟩
          conv=>whnf
          intro fp30
          conv=>whnf
          refine ⟨by kernel_rfl,?_⟩
          conv=>whnf
          refine ⟨hp19,?_⟩
          conv=>whnf
          refine ⟨trivial,?_⟩
         rotate_right
         focus
          conv=>whnf
          refine ⟨by kernel_rfl,?_⟩
          conv=>whnf
          refine ⟨hp17,?_⟩
          conv=>whnf
          intro fp30
          conv=>whnf
          refine ⟨by kernel_rfl,?_⟩
          conv=>whnf
          refine ⟨hp19,?_⟩
          conv=>whnf
          refine ⟨trivial,?_⟩
        rotate_right
        focus
         conv=>whnf
         refine ⟨?_,?_⟩;rotate_left
         focus
          conv=>whnf
          refine ⟨by kernel_rfl,?_⟩
          conv=>whnf
          refine ⟨hp17,?_⟩
          conv=>whnf
          intro fp30
          conv=>whnf
          refine ⟨by kernel_rfl,?_⟩
          conv=>whnf
          refine ⟨hp19,?_⟩
          conv=>whnf
          refine ⟨trivial,?_⟩
         rotate_right
         focus
          conv=>whnf
          refine ⟨by kernel_rfl,?_⟩
          conv=>whnf
          refine ⟨hp17,?_⟩
          conv=>whnf
          intro fp30
          conv=>whnf
          refine ⟨?_,?_⟩;rotate_left
          focus
           conv=>whnf
           refine ⟨by kernel_rfl,?_⟩
           conv=>whnf
           refine ⟨hp19,?_⟩
           conv=>whnf
           refine ⟨trivial,?_⟩
          rotate_right
          focus
           conv=>whnf
           refine ⟨by kernel_rfl,?_⟩
           conv=>whnf
           refine ⟨hp19,?_⟩
           conv=>whnf
           refine ⟨trivial,?_⟩
       rotate_right
       focus
        conv=>whnf
        refine ⟨by kernel_rfl,?_⟩
        conv=>whnf
        refine ⟨hp17,?_⟩
        conv=>whnf
        intro fp30
        conv=>whnf
        refine ⟨?_,?_⟩;rotate_left
        focus
         conv=>whnf
         refine ⟨by kernel_rfl,?_⟩
         conv=>whnf
         refine ⟨hp19,?_⟩
         conv=>whnf
         refine ⟨trivial,?_⟩
        rotate_right
        focus
         conv=>whnf
         refine ⟨?_,?_⟩;rotate_left
         focus
          conv=>whnf
          refine ⟨by kernel_rfl,?_⟩
          conv=>whnf
          refine ⟨hp19,?_⟩
          conv=>whnf
          refine ⟨trivial,?_⟩
         rotate_right
         focus
          conv=>whnf
          refine ⟨by kernel_rfl,?_⟩
          conv=>whnf
          refine ⟨hp19,?_⟩
          conv=>whnf
          refine ⟨trivial,?_⟩
      all_goals
       conv=>whnf
       refine ⟨by kernel_rfl,?_⟩
       conv=>whnf
       refine ⟨by kernel_rfl,?_⟩
       conv=>whnf
       refine ⟨by kernel_rfl,?_⟩
       conv=>whnf
       refine QL h (λl07Lumped0 hb20 h=>?_)
       conv=>whnf
       intro fp21
       conv=>whnf
       refine ⟨by kernel_rfl,?_⟩
       conv=>whnf
       refine Zvf h (λhp22 h=>?_)
       conv=>whnf
       intro fp23
       conv=>whnf
       refine QL h (λl08Attach0 hb24 h=>?_)
       conv=>whnf
       intro fp25
       conv=>whnf
       intro fp26
       conv=>whnf
       intro fp27
       conv=>whnf
       refine ⟨trivial,?_⟩
       conv=>whnf
       cases h;exact hK
     focus
      conv=>whnf
      refine vAt h (λx2 he31a he31b he31x h=>?_)
      conv=>whnf
      refine ⟨by kernel_rfl,?_⟩
      conv=>whnf
      refine ⟨by decide,?_⟩
      conv=>whnf
      refine ⟨he31a,he31b,ZaC he31x ?_⟩
      conv=>whnf
      refine ⟨by kernel_rfl,?_⟩
      conv=>whnf
      refine ⟨by kernel_rfl,?_⟩
      conv=>whnf
      refine ⟨by kernel_rfl,?_⟩
      conv=>whnf
      refine ⟨by kernel_rfl,?_⟩
      conv=>whnf
      obtain ⟨hp33,h⟩:=guardE h;obtain ⟨hp35,h⟩:=guardE h;refine ⟨?_,?_⟩;rotate_left
      focus
       conv=>whnf
       refine ⟨?_,?_⟩;rotate_left
       focus
        conv=>whnf
        refine ⟨?_,?_⟩;rotate_left
        focus
         conv=>whnf
         intro fp45
         conv=>whnf
         refine ⟨by kernel_rfl,?_⟩
         conv=>whnf
         refine ⟨hp33,?_⟩
         conv=>whnf
         intro fp46
         conv=>whnf
         refine ⟨by kernel_rfl,?_⟩
         conv=>whnf
         refine ⟨hp35,?_⟩
         conv=>whnf
         refine ⟨trivial,?_⟩
        rotate_right
        focus
         conv=>whnf
         intro fp45
         conv=>whnf
         refine ⟨?_,?_⟩;rotate_left
         focus
          conv=>whnf
          refine ⟨by kernel_rfl,?_⟩
          conv=>whnf
          refine ⟨hp33,?_⟩
          conv=>whnf
          intro fp46
          conv=>whnf
          refine ⟨by kernel_rfl,?_⟩
          conv=>whnf
          refine ⟨hp35,?_⟩
          conv=>whnf
          refine ⟨trivial,?_⟩
         rotate_right
         focus
          conv=>whnf
          refine ⟨by kernel_rfl,?_⟩
          conv=>whnf
          refine ⟨hp33,?_⟩
          conv=>whnf
          intro fp46
          conv=>whnf
          refine ⟨by kernel_rfl,?_⟩
          conv=>whnf
          refine ⟨hp35,?_⟩
          conv=>whnf
          refine ⟨trivial,?_⟩
       rotate_right
       focus
        conv=>whnf
        refine ⟨?_,?_⟩;rotate_left
        focus
         conv=>whnf
         intro fp45
         conv=>whnf
         refine ⟨by kernel_rfl,?_⟩
         conv=>whnf
         refine ⟨hp33,?_⟩
         conv=>whnf
         intro fp46
         conv=>whnf
         refine ⟨by kernel_rfl,?_⟩
         conv=>whnf
         refine ⟨hp35,?_⟩
         conv=>whnf
         refine ⟨trivial,?_⟩
        rotate_right
        focus
         conv=>whnf
         intro fp45
         conv=>whnf
         refine ⟨?_,?_⟩;rotate_left
         focus
          conv=>whnf
          refine ⟨by kernel_rfl,?_⟩
          conv=>whnf
          refine ⟨hp33,?_⟩
          conv=>whnf
          intro fp46
          conv=>whnf
          refine ⟨by kernel_rfl,?_⟩
          conv=>whnf
          refine ⟨hp35,?_⟩
          conv=>whnf
          refine ⟨trivial,?_⟩
         rotate_right
         focus
          conv=>whnf
          refine ⟨by kernel_rfl,?_⟩
          conv=>whnf
          refine ⟨hp33,?_⟩
          conv=>whnf
          intro fp46
          conv=>whnf
          refine ⟨?_,?_⟩;rotate_left
          focus
           conv=>whnf
           refine ⟨by kernel_rfl,?_⟩
           conv=>whnf
           refine ⟨hp35,?_⟩
           conv=>whnf
           refine ⟨trivial,?_⟩
          rotate_right
          focus
           conv=>whnf
           refine ⟨by kernel_rfl,?_⟩
           conv=>whnf
           refine ⟨hp35,?_⟩
           conv=>whnf
           refine ⟨trivial,?_⟩
      rotate_right
      focus
       conv=>whnf
       intro fp45
       conv=>whnf
       refine ⟨?_,?_⟩;rotate_left
       focus
        conv=>whnf
        refine ⟨?_,?_⟩;rotate_left
        focus
         conv=>whnf
         refine ⟨?_,?_⟩;rotate_left
         focus
          conv=>whnf
          refine ⟨by kernel_rfl,?_⟩
          conv=>whnf
          refine ⟨hp33,?_⟩
          conv=>whnf
          intro fp46
          conv=>whnf
          refine ⟨by kernel_rfl,?_⟩
          conv=>whnf
          refine ⟨hp35,?_⟩
          conv=>whnf
          refine ⟨trivial,?_⟩
         rotate_right
         focus
          conv=>whnf
          refine ⟨by kernel_rfl,?_⟩
          conv=>whnf
          refine ⟨hp33,?_⟩
          conv=>whnf
          intro fp46
          conv=>whnf
          refine ⟨by kernel_rfl,?_⟩
          conv=>whnf
          refine ⟨hp35,?_⟩
          conv=>whnf
          refine ⟨trivial,?_⟩
        rotate_right
        focus
         conv=>whnf
         refine ⟨?_,?_⟩;rotate_left
         focus
          conv=>whnf
          refine ⟨by kernel_rfl,?_⟩
          conv=>whnf
          refine ⟨hp33,?_⟩
          conv=>whnf
          intro fp46
          conv=>whnf
          refine ⟨by kernel_rfl,?_⟩
          conv=>whnf
          refine ⟨hp35,?_⟩
          conv=>whnf
          refine ⟨trivial,?_⟩
         rotate_right
         focus
          conv=>whnf
          refine ⟨by kernel_rfl,?_⟩
          conv=>whnf
          refine ⟨hp33,?_⟩
          conv=>whnf
          intro fp46
          conv=>whnf
          refine ⟨?_,?_⟩;rotate_left
          focus
           conv=>whnf
           refine ⟨by kernel_rfl,?_⟩
           conv=>whnf
           refine ⟨hp35,?_⟩
           conv=>whnf
           refine ⟨trivial,?_⟩
          rotate_right
          focus
           conv=>whnf
           refine ⟨by kernel_rfl,?_⟩
           conv=>whnf
           refine ⟨hp35,?_⟩
           conv=>whnf
           refine ⟨trivial,?_⟩
       rotate_right
       focus
        conv=>whnf
        refine ⟨by kernel_rfl,?_⟩
        conv=>whnf
        refine ⟨hp33,?_⟩
        conv=>whnf
        intro fp46
        conv=>whnf
        refine ⟨?_,?_⟩;rotate_left
        focus
         conv=>whnf
         refine ⟨by kernel_rfl,?_⟩
         conv=>whnf
         refine ⟨hp35,?_⟩
         conv=>whnf
         refine ⟨trivial,?_⟩
        rotate_right
        focus
         conv=>whnf
         refine ⟨?_,?_⟩;rotate_left
         focus
          conv=>whnf
          refine ⟨by kernel_rfl,?_⟩
          conv=>whnf
          refine ⟨hp35,?_⟩
          conv=>whnf
          refine ⟨trivial,?_⟩
         rotate_right
         focus
          conv=>whnf
          refine ⟨by kernel_rfl,?_⟩
          conv=>whnf
          refine ⟨hp35,?_⟩
          conv=>whnf
          refine ⟨trivial,?_⟩
      all_goals
       conv=>whnf
       refine ⟨by kernel_rfl,?_⟩
       conv=>whnf
       refine ⟨by kernel_rfl,?_⟩
       conv=>whnf
       refine ⟨by kernel_rfl,?_⟩
       conv=>whnf
       refine QL h (λl07Lumped0 hb36 h=>?_)
       conv=>whnf
       intro fp37
       conv=>whnf
       refine ⟨by kernel_rfl,?_⟩
       conv=>whnf
       refine Zvf h (λhp38 h=>?_)
       conv=>whnf
       intro fp39
       conv=>whnf
       refine QL h (λl08Attach0 hb40 h=>?_)
       conv=>whnf
       intro fp41
       conv=>whnf
       intro fp42
       conv=>whnf
       intro fp43
       conv=>whnf
       refine ⟨trivial,?_⟩
       conv=>whnf
       cases h;exact hK
theorem ZPP (q0:Sq 80 c66):Sq 87 ZH7:=by
 refine G8 Zn (Zd q0 Zi) {draws:=[(4,[],.u 0 13 .done),(6,[],.u 0 9 (.alt 9 (.op 10 .done) .done)),(10,[],.u 0 8 (.alt 8 (.op 9 .done) .done))]} Tryz.func87 ?_;rintro ⟨a0,a1,⟨⟩⟩ K ⟨r,h,hK⟩
 change Zbj a0 a1=some r at h
 unfold Zbj at h
 conv=>whnf
 refine QL h (λl05Places0 hb0 h=>?_)
 conv=>whnf
 refine Zlo h (λh=>?_) (λh=>?_)
 conv=>whnf
 refine ⟨by kernel_rfl,?_⟩
 conv=>whnf
 refine vAt h (λx0 he1a he1b he1x h=>?_)
 conv=>whnf
 refine ⟨by kernel_rfl,?_⟩
 conv=>whnf
 refine ⟨he1a,he1b,ZaC he1x ?_⟩
 conv=>whnf
 refine vAt h (λx1 he2a he2b he2x h=>?_)
 conv=>whnf
 refine ⟨trivial,?_⟩
 conv=>whnf
 cases h;exact hK
 conv=>whnf
 refine Zlo h (λh=>?_) (λh=>?_)
 conv=>whnf
 refine ⟨by kernel_rfl,?_⟩
 conv=>whnf
 refine vAt h (λx0 he3a he3b he3x h=>?_)
 conv=>whnf
 refine ⟨by kernel_rfl,?_⟩
 conv=>whnf
 refine ⟨he3a,he3b,ZaC he3x ?_⟩
 conv=>whnf
 refine ⟨trivial,?_⟩
 conv=>whnf
 cases h;exact hK
 conv=>whnf
 refine Zlo h (λh=>?_) (λh=>?_)
 conv=>whnf
 refine vAt h (λx0 he4a he4b he4x h=>?_)
 conv=>whnf
 refine vAt h (λx1 he5a he5b he5x h=>?_)
 conv=>whnf
 cases h;exact hK
 conv=>whnf
 refine Zlo h (λh=>?_) (λh=>?_)
 conv=>whnf
 refine ⟨by kernel_rfl,?_⟩
 conv=>whnf
 refine vAt h (λx0 he6a he6b he6x h=>?_)
 conv=>whnf
 refine ⟨by kernel_rfl,?_⟩
 conv=>whnf
 refine ⟨he6a,he6b,ZaC he6x ?_⟩
 conv=>whnf
 refine ⟨trivial,?_⟩
 conv=>whnf
 cases h;exact hK
 conv=>whnf
 cases h;exact hK
end Go.Proofs.YtjepimjoknccmaaGreatDoor
