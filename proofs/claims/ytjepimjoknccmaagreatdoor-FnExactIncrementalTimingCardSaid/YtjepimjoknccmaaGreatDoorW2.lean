/-
  The functions keep their contracts, if what they call does. Printed by program.
-/
import Derived.Test.YtjepimjoknccmaaGreatDoorM
import Derived.KernelRfl
namespace Go.Proofs.YtjepimjoknccmaaGreatDoor
open Go Go.Sx
set_option maxRecDepth 100000
set_option maxHeartbeats 6400000
set_option linter.unusedVariables false
set_option linter.unusedSimpArgs false
structure Ws2:Prop where
 w227:Sq 225 c226->Sq 162 c227
 w226:Sq 161 ZHq->Sq 225 c226
 w255:Sq 112 ZF8
 w179:Sq 387 ZIy
 w174:Sq 382 ZIn->Sq 383 c168->Sq 384 c171->Sq 385 c173->Sq 375 ZF5->Sq 226 c148->Sq 372 ZIu
 w173:Sq 375 ZF5->Sq 226 c148->Sq 385 c173
 w183:Sq 375 ZF5->Sq 175 c160->Sq 376 c182->Sq 357 c183
 w304:Sq 337 ZJP
 w223:Sq 108 c198->Sq 186 ZHp
 w315:Sq 46 ZI0->Sq 47 ZJf->Sq 49 ZGa->Sq 50 ZJi->Sq 48 ZJZ->Sq 15 ZJ0
 w212:Sq 323 c212
 w268:Sq 230 ZFH->Sq 231 ZJj->Sq 171 ZJk
 w197:Sq 267 ZIC->Sq 268 ZID->Sq 269 c193->Sq 270 ZF6->Sq 271 c196->Sq 219 ZIJ
 w240:Sq 95 ZHo->Sq 96 c228->Sq 97 ZHr->Sq 98 ZHs->Sq 99 ZIZ->Sq 100 ZHt->Sq 46 ZI0
 w311:Sq 243 ZJW
 w303:Sq 365 ZJO->Sq 335 ZFI->Sq 334 ZHA
 w252:Sq 187 c222->Sq 114 ZHw
 w199:Sq 226 c148->Sq 273 ZIK
 w267:Sq 231 ZJj
 w168:Sq 393 c167->Sq 383 c168
 w165:Sq 395 ZIp->Sq 396 c164->Sq 394 ZIq
 w246:Sq 187 c222->Sq 246 ZI4
 w210:Sq 320 ZIP->Sq 277 c210
 w312:Sq 240 ZJH->Sq 241 ZJJ->Sq 180 ZHy->Sq 242 ZJV->Sq 243 ZJW->Sq 182 ZJX
 w276:Sq 284 ZJr->Sq 233 ZJs
 w277:Sq 233 ZJs->Sq 236 ZJt
 w275:Sq 284 ZJr
 w286:Sq 233 ZJB->Sq 180 ZHy
 w287:Sq 181 ZJC
 w155:Sq 382 ZIn
 w149:Sq 226 c148->Sq 282 ZmN->Sq 283 Zik->Sq 230 ZFH
 w231:Sq 226 c148->Sq 227 ZIY
 w236:Sq 166 c236
 w269:Sq 232 ZJl
 w205:Sq 319 ZIM->Sq 274 ZIN
 w290:Sq 286 ZJF
 w235:Sq 163 ZIX->Sq 164 c232->Sq 165 c234->Sq 97 ZHr
 w229:Sq 229 c206->Sq 167 c229
 w309:Sq 289 ZGb->Sq 333 ZHz->Sq 334 ZHA->Sq 338 ZJT->Sq 290 ZJU
 w301:Sq 380 ZJN->Sq 365 ZJO
 w148:Sq 226 c148
 w325:Sq 345 ZJ7->Sq 303 ZJ8
 w326:Sq 303 ZJ8->Sq 253 ZJ9
 w330:Sq 17 ZDU->Sq 192 ZKd
 w329:Sq 118 ZKb->Sq 53 ZKc
 w333:Sq 193 ZKg
 w317:Sq 117 ZHB
 w318:Sq 117 ZHB->Sq 52 ZJ2
 w324:Sq 368 ZJ6->Sq 345 ZJ7
 w336:Sq 17 ZDU->Sq 56 ZHC
 w362:Sq 65 ZKG
 w346:Sq 254 ZKp->Sq 196 ZKq
 w358:Sq 62 ZKC
 w347:Sq 194 ZDV->Sq 195 ZKo->Sq 196 ZKq->Sq 25 ZDt->Sq 122 ZKr
 w352:Sq 123 ZKt->Sq 124 ZKu->Sq 125 ZKv->Sq 59 ZKw
 w351:Sq 194 ZDV->Sq 125 ZKv
 w357:Sq 23 ZKB
 w359:Sq 63 ZKD
 w355:Sq 25 ZDt->Sq 61 ZKz
 w18:Sq 28 c9->Sq 29 c15->Sq 30 c17->Sq 4 c18
 w20:Sq 6 c20
 w19:Sq 31 c16->Sq 5 c19
 w1:Sq 255 c0->Sq 197 c1
 w23:Sq 33 c23
 w3:Sq 70 c2->Sq 346 c3
 w4:Sq 346 c3->Sq 304 c4
 w24:Sq 32 c22->Sq 33 c23->Sq 8 c24
 w16:Sq 70 c2->Sq 31 c16
 w17:Sq 31 c16->Sq 30 c17
 w32:Sq 217 c26->Sq 218 c31->Sq 93 c27->Sq 154 c32
 w35:Sq 93 c27->Sq 155 c35
 w36:Sq 155 c35->Sq 90 c36
 w25:Sq 265 c25
 w39:Sq 156 c38->Sq 92 c39
 w244:Sq 244 ZI2
 w238:Sq 99 ZIZ
 w249:Sq 248 ZI7
 w177:Sq 386 ZIv->Sq 373 ZIw
 w196:Sq 318 ZII->Sq 271 c196
 w176:Sq 374 c175->Sq 386 ZIv
 w158:Sq 237 c157->Sq 238 ZIo
 w151:Sq 324 ZHk
 w299:Sq 391 ZJM
 w74:Sq 204 c74
 w61:Sq 347 c54->Sq 203 c52->Sq 134 c53->Sq 348 c59->Sq 349 c60->Sq 305 c61
 w65:Sq 257 c62->Sq 258 c63->Sq 259 c64->Sq 199 c65
 w89:Sq 129 c69->Sq 133 c81->Sq 138 c88->Sq 74 c89
 w68:Sq 134 c53->Sq 200 c68
 w76:Sq 260 c75->Sq 205 c76
 w122:Sq 207 ZHb->Sq 143 c116->Sq 133 c81->Sq 144 ZHc->Sq 213 ZIc->Sq 145 ZHd
 w132:Sq 351 c130->Sq 310 c131->Sq 307 ZHg
 w91:Sq 151 c90->Sq 313 c91
 w130:Sq 351 c130
 w59:Sq 134 c53->Sq 369 c58->Sq 348 c59
 w60:Sq 349 c60
 w52:Sq 203 c52
 w58:Sq 381 c57->Sq 369 c58
 w127:Sq 370 c127
 w63:Sq 134 c53->Sq 258 c63
 w134:Sq 350 ZHe->Sq 352 ZHi
 w128:Sq 151 c90->Sq 80 c66->Sq 153 c67->Sq 370 c127->Sq 350 ZHe
 w100:Sq 152 ZH3
 w139:Sq 352 ZHi->Sq 353 c138->Sq 310 c131->Sq 312 c139
 w72:Sq 201 c72
 w77:Sq 261 c77
 w99:Sq 84 c99
 w78:Sq 202 c73->Sq 153 c67->Sq 261 c77->Sq 206 c78
 w118:Sq 129 c69->Sq 143 c116->Sq 142 c117->Sq 207 ZHb
 w116:Sq 209 ZH9->Sq 208 ZIa->Sq 210 ZIb->Sq 153 c67->Sq 211 ZHa->Sq 143 c116
 w120:Sq 212 c119->Sq 144 ZHc
 w137:Sq 306 ZHf->Sq 307 ZHg->Sq 309 ZHh->Sq 308 ZIg->Sq 311 ZIh->Sq 310 c131->Sq 262 ZIi
 w140:Sq 306 ZHf->Sq 307 ZHg->Sq 309 ZHh->Sq 312 c139->Sq 263 ZIj
 w105:Sq 139 c105
 w142:Sq 215 ZIk
 w124:Sq 129 c69->Sq 140 ZG9->Sq 133 c81->Sq 138 c88->Sq 141 ZId->Sq 76 c124
 w125:Sq 133 c81->Sq 142 c117->Sq 77 ZIe
 w85:Sq 80 c66->Sq 137 c85
 w144:Sq 148 ZIl
 w86:Sq 137 c85->Sq 73 c86
 w106:Sq 37 ZF2->Sq 133 c81->Sq 139 c105->Sq 137 c85->Sq 75 ZH6
set_option maxHeartbeats 100000000 in
theorem ws2:Ws2:=by
 refine ⟨(λq0=>G8 Zn (Zd q0 Zi) {loops:=[(0,[.reg 6 (.own (.ol 2 (.flat Iq))),.reg 19 (.dat Iq)])]} Tryz.func162 ?_),
 (λq0=>G8 Zn (Zd q0 Zi) {loops:=[(0,[.reg 8 (.dat Iq),.ent 3 (nat_lit 2) (.flat ZzA.ety)])],draws:=[(1,[],.u 0 7 (.alt 7 (.a [8,9] (.op 10 .done)) (.a [8,7,9] (.op 10 .done)))),(6,[],.u 0 22 (.d 22))]} Tryz.func225 ?_),
 (G8 YX Zi {draws:=[(2,[],.u 0 10 (.d 10)),(3,[],.u 0 14 (.d 14))]} Tryz.func112 ?_),
 (G8 Zn Zi {} Tryz.func387 ?_),
 (λq4 q3 q2 q0 q1 q5=>G8 Zn (Zd q4 (Zd q3 (Zd q2 (Zd q0 (Zd q1 (Zd q5 Zi)))))) {draws:=[(2,[],.u 0 12 (.alt 12 (.u 13 5 (.alt 18 (.u 19 11 (.alt 30 (.u 31 9 .done) .done)) .done)) .done)),(3,[],.o [0,1] (.alt 2 (.u 3 4 (.alt 7 (.u 8 6 (.alt 14 (.u 15 6 (.alt 21 (.o [22,23] .done) .done)) .done)) .done)) .done))]} Tryz.func372 ?_),
 (λq0 q1=>G8 Zn (Zd q0 (Zd q1 Zi)) {} Tryz.func385 ?_),
 (λq0 q1 q2=>G8 Zn (Zd q0 (Zd q1 (Zd q2 Zi))) {loops:=[(0,[.reg 3 (.dat Iq),.reg 9 (.dat Iq)])],draws:=[(10,[],.u 0 7 (.alt 7 (.u 8 6 (.alt 14 (.o [15,16] .done) .done)) .done)),(12,[],.u 0 10 (.alt 10 (.u 11 4 (.op 16 (.a [15,17] (.o [18,19,20] .done)))) .done))]} Tryz.func357 ?_),
 (G8 Zn Zi {} Tryz.func337 ?_),
 (λq0=>G8 Zn (Zd q0 Zi) {loops:=[(0,[.reg 5 (.own (.ol 2 (.flat Iq))),.reg 11 (.dat Iq)])]} Tryz.func186 ?_),
 (λq0 q2 q3 q4 q1=>G8 Zn (Zd q0 (Zd q2 (Zd q3 (Zd q4 (Zd q1 Zi))))) {draws:=[(7,[],.o [0,1] (.u 3 5 (.a [2,8,9] (.o [10,11,12] (.alt 13 (.o [14,15] .done) .done)))))]} Tryz.func15 ?_),
 (G8 Zn Zi {} Tryz.func323 ?_),
 (λq1 q0=>G8 Zn (Zd q1 (Zd q0 Zi)) {} Tryz.func171 ?_),
 (λq4 q2 q1 q3 q0=>G8 Zn (Zd q4 (Zd q2 (Zd q1 (Zd q3 (Zd q0 Zi))))) {loops:=[(0,[.reg 25 (.dat Iq),.ent 2 (nat_lit 3) (.flat Zu2.ety)]),(2,[.reg 51 (.dat Iq),.ent 2 (nat_lit 3) (.flat Zu2.ety)])]} Tryz.func219 ?_),
 (λq3 q4 q2 q1 q0 q5=>G8 Zn (Zd q3 (Zd q4 (Zd q2 (Zd q1 (Zd q0 (Zd q5 Zi)))))) {loops:=[(0,[.reg 33 (.dat Iq),.ent 3 (nat_lit 106) (.flat Z7)])]} Tryz.func46 ?_),
 (G8 Zn Zi {} Tryz.func243 ?_),
 (λq0 q1=>G8 Zn (Zd q0 (Zd q1 Zi)) {loops:=[(0,[.reg 13 (.dat Iq),.reg 34 (.dat Iq)]),(2,[.reg 13 (.dat Iq),.reg 40 (.dat Iq)])],draws:=[(10,[],.u 0 22 .done)]} Tryz.func334 ?_),
 (λq0=>G8 Zn (Zd q0 Zi) {draws:=[(1,[],.o [0,1,3,4,6,7,9,10] (.a [2,5,8,11] (.op 12 (.d 13))))]} Tryz.func114 ?_),
 (λq0=>G8 Zn (Zd q0 Zi) {loops:=[(0,[.reg 8 (.dat Iq)])]} Tryz.func273 ?_),
 (G8 Zn Zi {} Tryz.func231 ?_),
 (λq0=>G8 Zn (Zd q0 Zi) {} Tryz.func383 ?_),
 (λq1 q0=>G8 Zn (Zd q1 (Zd q0 Zi)) {} Tryz.func394 ?_),
 (λq0=>G8 YX (Zd q0 Zi) {loops:=[(0,[.reg 3 (.own (.ol 353 (ZgI))),.reg 8 (.dat Iq)])],draws:=[(5,[],.o [0,1,2,4,5,7,8] (.a [3,6,9] (.op 10 (.a [11,12] (.op 13 .done)))))]} Tryz.func246 ?_),
 (λq0=>G8 Zn (Zd q0 Zi) {} Tryz.func277 ?_),
 (λq3 q0 q4 q1 q2=>G8 Zn (Zd q3 (Zd q0 (Zd q4 (Zd q1 (Zd q2 Zi))))) {loops:=[(0,[.reg 39 (.dat Iq),.cell 1012 0 Iq,.cell 1012 1 Iq,.cell 1012 2 Iq,.cell 1012 3 Iq,.cell 1012 4 Iq,.cell 1013 0 (.bool)])],draws:=[(11,[],.u 0 11 (.alt 11 (.o [12,13,14] (.alt 15 (.a [16,17,18] .done) (.a [16,15,17,18] .done))) (.alt 15 (.alt 11 (.o [12,13,14] (.a [16,17,18] .done)) (.a [16,11] (.o [12,13,14] (.a [17,18] .done)))) (.alt 16 (.alt 11 (.o [12,13,14] (.a [15,17,18] .done)) (.a [15,11] (.o [12,13,14] (.a [17,18] .done)))) .done)))),(12,[],.u 0 6 (.op 7 (.a [6,8] .done))),(16,[],.o [0,1] (.d 2))]} Tryz.func182 ?_),
 (λq0=>G8 Zn (Zd q0 Zi) {loops:=[(0,[.reg 5 (.own (.ol 2 (.flat Iq))),.reg 16 (.dat Iq)])]} Tryz.func233 ?_),
 (λq0=>G8 Zn (Zd q0 Zi) {} Tryz.func236 ?_),
 (G8 Zn Zi {} Tryz.func284 ?_),
 (λq0=>G8 Zn (Zd q0 Zi) {} Tryz.func180 ?_),
 (G8 Zn Zi {draws:=[(1,[],.u 0 15 .done)]} Tryz.func181 ?_),
 (G8 Zn Zi {} Tryz.func382 ?_),
 (λq2 q1 q0=>G8 Zn (Zd q2 (Zd q1 (Zd q0 Zi))) {} Tryz.func230 ?_),
 (λq0=>G8 Zn (Zd q0 Zi) {} Tryz.func227 ?_),
 (G8 Zn Zi {} Tryz.func166 ?_),
 (G8 Zn Zi {} Tryz.func232 ?_),
 (λq0=>G8 Zn (Zd q0 Zi) {} Tryz.func274 ?_),
 (G8 Zn Zi {} Tryz.func286 ?_),
 (λq0 q2 q1=>G8 Zn (Zd q0 (Zd q2 (Zd q1 Zi))) {loops:=[(0,[.reg 9 (.dat Iq)])],draws:=[(4,[],.o [0,1,2] (.alt 3 (.u 4 4 (.alt 8 (.u 9 5 (.alt 14 (.u 15 17 .done) .done)) .done)) .done))]} Tryz.func97 ?_),
 (λq0=>G8 Zn (Zd q0 Zi) {} Tryz.func167 ?_),
 (λq1 q2 q0 q3=>G8 Zn (Zd q1 (Zd q2 (Zd q0 (Zd q3 Zi)))) {draws:=[(4,[],.o [0,1,4,5,6] (.u 9 9 (.alt 2 (.o [3,7,8] (.alt 18 (.o [19,20] .done) .done)) .done))),(5,[],.u 0 13 (.alt 13 (.o [14,15] .done) .done))]} Tryz.func290 ?_),
 (λq0=>G8 Zn (Zd q0 Zi) {draws:=[(1,[],.u 0 13 .done),(5,[],.u 0 18 (.u 19 10 (.alt 18 (.o [29,30] .done) .done)))]} Tryz.func365 ?_),
 (G8 Zn Zi {} Tryz.func226 ?_),
 (λq0=>G8 Zn (Zd q0 Zi) {} Tryz.func303 ?_),
 (λq0=>G8 Zn (Zd q0 Zi) {loops:=[(0,[.reg 5 (.dat Iq)])],draws:=[(6,[],.u 0 8 (.alt 8 (.op 9 .done) .done))]} Tryz.func253 ?_),
 (λq0=>G8 Zn (Zd q0 Zi) {} Tryz.func192 ?_),
 (λq0=>G8 Zn (Zd q0 Zi) {} Tryz.func53 ?_),
 (G8 Zn Zi {} Tryz.func193 ?_),
 (G8 Zn Zi {} Tryz.func117 ?_),
 (λq0=>G8 Zn (Zd q0 Zi) {loops:=[(0,[.reg 5 (.dat Iq)])],draws:=[(6,[],.u 0 8 (.alt 8 (.op 9 .done) .done))]} Tryz.func52 ?_),
 (λq0=>G8 Zn (Zd q0 Zi) {loops:=[(0,[.reg 5 (.dat Iq)])],draws:=[(6,[],.u 0 8 (.alt 8 (.op 9 .done) .done))]} Tryz.func345 ?_),
 (λq0=>G8 Zn (Zd q0 Zi) {} Tryz.func56 ?_),
 (G8 Zn Zi {loops:=[(0,[.reg 1 (.dat Iq),.reg 5 (.dat Iq)])]} Tryz.func65 ?_),
 (λq0=>G8 YX (Zd q0 Zi) {loops:=[(0,[.reg 1 (.dat Iq),.reg 5 (.dat Iq),.ent 0 (nat_lit 280) (Dp.pair (Dp.flat (Ty.int IntKind.i64)) (Dp.pair (Dp.flat (Ty.int IntKind.i64)) (Dp.pair (Dp.flat (Ty.int IntKind.i64)) (Dp.pair (Dp.flat (Ty.int IntKind.i64)) (Dp.pair (Dp.ol (353:Go.TypeId) ZgI) (Dp.pair (Dp.ol (353:Go.TypeId) ZgI) (Dp.flat Ty.unit)))))))])]} Tryz.func196 ?_),
 (G8 YX Zi {loops:=[(0,[.reg 1 (.dat Iq),.reg 5 (.dat Iq),.ent 0 (nat_lit 4) (.flat Ty.bool)])]} Tryz.func62 ?_),
 (λq1 q2 q3 q0=>G8 YX (Zd q1 (Zd q2 (Zd q3 (Zd q0 Zi)))) {loops:=[(0,[.reg 1 (.dat Iq),.reg 5 (.dat Iq),.ent 0 (nat_lit 236) (Dp.pair (Dp.flat Ty.str) (Dp.pair (Dp.flat (Ty.int IntKind.i64)) (Dp.pair (Dp.ol (311:Go.TypeId) (Dp.flat Ze1)) (Dp.pair (Dp.ol (280:Go.TypeId) Zzv) (Dp.pair (Dp.ol (2:Go.TypeId) (Dp.flat (Ty.int IntKind.i64))) (Dp.pair (Dp.flat (Ty.int IntKind.i64)) (Dp.pair (Dp.flat (Ty.int IntKind.i64)) (Dp.flat Ty.unit))))))))])]} Tryz.func122 ?_),
 (λq0 q1 q2=>G8 YX (Zd q0 (Zd q1 (Zd q2 Zi))) {} Tryz.func59 ?_),
 (λq0=>G8 YX (Zd q0 Zi) {loops:=[(0,[.reg 1 (.dat Iq),.reg 5 (.dat Iq),.ent 0 (nat_lit 230) (.flat ZaB)])]} Tryz.func125 ?_),
 (G8 YX Zi {loops:=[(0,[.reg 1 (.dat Iq),.reg 5 (.dat Iq),.ent 0 (nat_lit 106) (.flat Z7)])]} Tryz.func23 ?_),
 (G8 YX Zi {loops:=[(0,[.reg 1 (.dat Iq),.reg 5 (.dat Iq),.ent 0 (nat_lit 104) (.flat YU)])]} Tryz.func63 ?_),
 (λq0=>G8 YX (Zd q0 Zi) {} Tryz.func61 ?_),
 (λq0 q1 q2=>G8 Zn (Zd q0 (Zd q1 (Zd q2 Zi))) {} Tryz.func4 ?_),
 (G8 Zn Zi {} Tryz.func6 ?_),
 (λq0=>G8 Zn (Zd q0 Zi) {} Tryz.func5 ?_),
 (λq0=>G8 Zn (Zd q0 Zi) {loops:=[(0,[.reg 1 (.dat Iq),.reg 5 (.dat Iq)])]} Tryz.func197 ?_),
 (G8 Zn Zi {} Tryz.func33 ?_),
 (λq0=>G8 Zn (Zd q0 Zi) {} Tryz.func346 ?_),
 (λq0=>G8 Zn (Zd q0 Zi) {loops:=[(0,[.reg 1 (.dat Iq),.reg 5 (.dat Iq)])]} Tryz.func304 ?_),
 (λq0 q1=>G8 Zn (Zd q0 (Zd q1 Zi)) {} Tryz.func8 ?_),
 (λq0=>G8 Zn (Zd q0 Zi) {} Tryz.func31 ?_),
 (λq0=>G8 Zn (Zd q0 Zi) {loops:=[(0,[.reg 1 (.dat Iq),.reg 5 (.dat Iq)])]} Tryz.func30 ?_),
 (λq1 q2 q0=>G8 YX (Zd q1 (Zd q2 (Zd q0 Zi))) {} Tryz.func154 ?_),
 (λq0=>G8 Zn (Zd q0 Zi) {} Tryz.func155 ?_),
 (λq0=>G8 YX (Zd q0 Zi) {loops:=[(0,[.reg 4 (.dat Iq),.ent 0 (nat_lit 144) Zcw])]} Tryz.func90 ?_),
 (G8 Zn Zi {} Tryz.func265 ?_),
 (λq0=>G8 Zn (Zd q0 Zi) {loops:=[(0,[.reg 4 (.dat Iq),.ent 0 (nat_lit 230) (.flat ZHV.ety)])]} Tryz.func92 ?_),
 (G8 Zn Zi {} Tryz.func244 ?_),
 (G8 Zn Zi {} Tryz.func99 ?_),
 (G8 Zn Zi {} Tryz.func248 ?_),
 (λq0=>G8 Zn (Zd q0 Zi) {} Tryz.func373 ?_),
 (λq0=>G8 Zn (Zd q0 Zi) {} Tryz.func271 ?_),
 (λq0=>G8 Zn (Zd q0 Zi) {loops:=[(0,[.reg 8 (.dat Iq)])]} Tryz.func386 ?_),
 (λq0=>G8 Zn (Zd q0 Zi) {loops:=[(0,[.reg 8 (.dat Iq)])]} Tryz.func238 ?_),
 (G8 Zn Zi {loops:=[(0,[.reg 8 (.dat Iq)])]} Tryz.func324 ?_),
 (G8 Zn Zi {} Tryz.func391 ?_),
 (G8 Zn Zi {loops:=[(0,[.reg 5 (.dat Iq)])]} Tryz.func204 ?_),
 (λq1 q2 q4 q3 q0=>G8 Zn (Zd q1 (Zd q2 (Zd q4 (Zd q3 (Zd q0 Zi))))) {loops:=[(0,[.reg 5 (.dat Iq)]),(2,[.reg 7 (.dat Iq)]),(5,[.reg 9 (.dat Iq)])],draws:=[(13,[],.u 0 31 .done),(25,[],.u 0 26 .done)]} Tryz.func305 ?_),
 (λq0 q1 q2=>G8 Zn (Zd q0 (Zd q1 (Zd q2 Zi))) {loops:=[(0,[.reg 5 (.own (.ol 9 (.flat (.str)))),.reg 6 (.dat Iq)]),(2,[.reg 7 (.own (.ol 9 (.flat (.str)))),.reg 8 (.dat Iq)]),(4,[.reg 10 (.dat Iq),.ent 6 (nat_lit 2) (.flat ZzA.ety)]),(6,[.reg 12 (.dat Iq),.ent 6 (nat_lit 2) (.flat ZzA.ety)]),(8,[.reg 13 (.dat Iq)])]} Tryz.func199 ?_),
 (λq2 q1 q0=>G8 Zn (Zd q2 (Zd q1 (Zd q0 Zi))) {draws:=[(1,[],.op 0 (.alt 1 (.o [2,3,5] (.a [4,6] (.o [7,8] .done))) .done))]} Tryz.func74 ?_),
 (λq0=>G8 Zn (Zd q0 Zi) {loops:=[(0,[.reg 6 (.dat Iq)]),(2,[.reg 7 (.dat Iq)])]} Tryz.func200 ?_),
 (λq0=>G8 Zn (Zd q0 Zi) {} Tryz.func205 ?_),
 (λq3 q0 q1 q4 q2=>G8 Zn (Zd q3 (Zd q0 (Zd q1 (Zd q4 (Zd q2 Zi))))) {} Tryz.func145 ?_),
 (λq0 q1=>G8 Zn (Zd q0 (Zd q1 Zi)) {loops:=[(0,[.reg 16 (.dat Iq),.reg 17 (.dat Iq)]),(2,[.reg 16 (.dat Iq),.reg 18 (.dat Iq)])]} Tryz.func307 ?_),
 (λq0=>G8 Zn (Zd q0 Zi) {draws:=[(1,[],.o [0,1,3,4,6,7] (.a [2,5,8] (.op 9 (.d 10))))]} Tryz.func313 ?_),
 (G8 Zn Zi {loops:=[(0,[.reg 8 (.dat Iq)])],draws:=[(10,[],.u 0 17 .done)]} Tryz.func351 ?_),
 (λq1 q0=>G8 Zn (Zd q1 (Zd q0 Zi)) {} Tryz.func348 ?_),
 (G8 Zn Zi {loops:=[(0,[.reg 4 (.dat Iq),.ent 1 (nat_lit 2) (.flat ZzA.ety)])]} Tryz.func349 ?_),
 (G8 Zn Zi {loops:=[(0,[.reg 3 (.dat Iq)])]} Tryz.func203 ?_),
 (λq0=>G8 Zn (Zd q0 Zi) {loops:=[(0,[.reg 5 (.dat Iq)])]} Tryz.func369 ?_),
 (G8 Zn Zi {draws:=[(3,[],.u 0 18 .done)]} Tryz.func370 ?_),
 (λq0=>G8 Zn (Zd q0 Zi) {loops:=[(0,[.reg 6 (.dat Iq)]),(2,[.reg 8 (.dat Iq)]),(4,[.reg 9 (.dat Iq)])],draws:=[(6,[],.u 0 6 (.alt 6 (.u 7 15 .done) .done))]} Tryz.func258 ?_),
 (λq0=>G8 Zn (Zd q0 Zi) {loops:=[(0,[.reg 7 (.own (.ol 2 (.flat Iq))),.reg 8 (.dat Iq)])],draws:=[(7,[],.u 0 20 (.a [20,21] (.op 22 .done)))]} Tryz.func352 ?_),
 (λq2 q0 q1 q3=>G8 Zn (Zd q2 (Zd q0 (Zd q1 (Zd q3 Zi)))) {loops:=[(0,[.reg 9 (.dat Iq),.ent 2 (nat_lit 2) (.flat (Ty.int IntKind.i64))]),(2,[.reg 10 (.dat Iq),.ent 2 (nat_lit 2) (.flat (Ty.int IntKind.i64))])],draws:=[(8,[],.u 0 19 (.alt 19 (.o [20,21] (.d 22)) .done)),(12,[],.u 0 14 (.d 14))]} Tryz.func350 ?_),
 (G8 Zn Zi {} Tryz.func152 ?_),
 (λq0 q1 q2=>G8 Zn (Zd q0 (Zd q1 (Zd q2 Zi))) {draws:=[(1,[],.o [0,1] (.u 3 9 (.alt 2 (.o [12,13,14] .done) .done)))]} Tryz.func312 ?_),
 (G8 Zn Zi {loops:=[(0,[.reg 5 (.dat Iq)])],draws:=[(6,[],.u 0 13 .done)]} Tryz.func201 ?_),
 (G8 Zn Zi {} Tryz.func261 ?_),
 (G8 YX Zi {draws:=[(3,[],.u 0 11 (.d 11))]} Tryz.func84 ?_),
 (λq0 q1 q2=>G8 Zn (Zd q0 (Zd q1 (Zd q2 Zi))) {draws:=[(6,[],.u 0 7 (.alt 7 (.u 8 28 .done) .done))]} Tryz.func206 ?_),
 (λq2 q1 q0=>G8 Zn (Zd q2 (Zd q1 (Zd q0 Zi))) {} Tryz.func207 ?_),
 (λq2 q4 q0 q1 q3=>G8 Zn (Zd q2 (Zd q4 (Zd q0 (Zd q1 (Zd q3 Zi))))) {loops:=[(0,[.reg 3 (.own (.ol 224 (.flat (ZcZ)))),.reg 5 (.dat Iq)]),(2,[.reg 3 (.own (.ol 224 (.flat (ZcZ)))),.reg 7 (.dat Iq)]),(4,[.reg 3 (.own (.ol 224 (.flat (ZcZ)))),.reg 8 (.dat Iq)]),(6,[.reg 3 (.own (.ol 224 (.flat (ZcZ)))),.reg 11 (.dat Iq)])],draws:=[(6,[],.u 0 13 .done),(11,[],.u 0 12 (.u 13 7 (.op 21 (.a [12,20,22] (.op 23 .done)))))]} Tryz.func143 ?_),
 (λq0=>G8 Zn (Zd q0 Zi) {loops:=[(0,[.reg 5 (.own (.ol 4 (.flat (.bool)))),.reg 6 (.dat Iq)])]} Tryz.func144 ?_),
 (λq3 q2 q4 q0 q1 q5=>G8 Zn (Zd q3 (Zd q2 (Zd q4 (Zd q0 (Zd q1 (Zd q5 Zi)))))) {draws:=[(5,[],.o [0,1,2,4,6,7] (.a [3,5] (.o [8,9,10] .done)))]} Tryz.func262 ?_),
 (λq2 q0 q3 q1=>G8 Zn (Zd q2 (Zd q0 (Zd q3 (Zd q1 Zi)))) {draws:=[(4,[],.o [0,1,2] (.u 4 4 (.a [3,8] (.o [9,10] .done))))]} Tryz.func263 ?_),
 (G8 Zn Zi {draws:=[(1,[],.o [0,2,4] (.alt 1 (.alt 3 (.alt 5 (.op 6 (.d 7)) .done) (.a [5,3] (.op 6 (.d 7)))) (.alt 3 (.alt 1 (.alt 5 (.op 6 (.d 7)) .done) (.a [5,1] (.op 6 (.d 7)))) (.alt 5 (.alt 1 (.alt 3 (.op 6 (.d 7)) .done) (.a [3,1] (.op 6 (.d 7)))) .done))))]} Tryz.func139 ?_),
 (G8 Zn Zi {} Tryz.func215 ?_),
 (λq3 q1 q2 q0 q4=>G8 Zn (Zd q3 (Zd q1 (Zd q2 (Zd q0 (Zd q4 Zi))))) {draws:=[(1,[],.op 0 (.alt 1 (.o [2,3,4] (.alt 5 (.u 6 4 (.op 11 (.a [10,12] (.o [13,14] .done)))) .done)) .done))]} Tryz.func76 ?_),
 (λq1 q0=>G8 Zn (Zd q1 (Zd q0 Zi)) {} Tryz.func77 ?_),
 (λq0=>G8 Zn (Zd q0 Zi) {loops:=[(0,[.reg 5 (.own (.ol 2 (.flat Iq))),.reg 8 (.dat Iq)])]} Tryz.func137 ?_),
 (G8 YX Zi {draws:=[(3,[],.u 0 28 .done)]} Tryz.func148 ?_),
 (λq0=>G8 Zn (Zd q0 Zi) {loops:=[(0,[.reg 9 (.own (.ol 106 (.flat (Z7)))),.reg 10 (.dat Iq)])]} Tryz.func73 ?_),
 (λq1 q2 q3 q0=>G8 Zn (Zd q1 (Zd q2 (Zd q3 (Zd q0 Zi)))) {loops:=[(0,[.reg 9 (.dat Iq),.ent 9 (nat_lit 4) (.flat Ty.bool),.ent 10 (nat_lit 104) (.flat YU),.ent 11 (nat_lit 104) (.flat YU)])],draws:=[(9,[],.u 0 9 (.d 9)),(10,[],.u 0 9 (.d 9)),(11,[],.u 0 9 (.d 9))]} Tryz.func75 ?_)⟩
 all_goals
  intro a;repeat rcases a with ⟨_,a⟩
  rintro K ⟨r,h,hK⟩;repeat'
    conv=>whnf
    first
    | with_reducible refine Ziq ?_
    | with_reducible refine ZoQ (by assumption) (by assumption) (by assumption) ?_
    | with_reducible refine ZaC (by assumption) ?_
    | with_reducible refine ZoW (by assumption) ?_
    | (with_reducible refine shD ?_);first | refine Zlo h (λh=>?_) (λh=>?_) | refine ZDg h (λh=>?_) (λh=>?_)
    | (with_reducible refine ZEE ?_);first | refine ZBD ?_ | refine ZqW ?_
    | (with_reducible refine ZK3 ?_);first | refine Zwo h (λh=>?_) (λh=>?_) | refine ZFy h (λh=>?_) (λh=>?_)
    | (with_reducible refine ZED ?_);(refine ⟨λhd=>?_,?_⟩)<;>try subst hd
    | (with_reducible refine ZK5 ?_);first | with_reducible refine QL h (λx hb h=>?_) | refine ZoW (by assumption) ?_ | with_reducible refine pG h (λhp h=>?_) | with_reducible refine pA h (λx ha hb hx h=>?_) | with_reducible refine pB h (λx hb h=>?_) | refine QL h (λx hb h=>?_)
    | (with_reducible refine ZK2 ?_);first | with_reducible refine vAt h (λx ha hb hx h=>?_) | refine ZoQ (by assumption) (by assumption) (by assumption) ?_ | with_reducible refine pG h (λhp h=>?_) | with_reducible refine pA h (λx ha hb hx h=>?_) | with_reducible refine pB h (λx hb h=>?_) | refine vAt h (λx ha hb hx h=>?_)
    | (with_reducible refine ZEC ?_);first | with_reducible refine Zzr h (λx hb h=>?_) | refine ZaC (by assumption) ?_ | with_reducible refine pG h (λhp h=>?_) | with_reducible refine pA h (λx ha hb hx h=>?_) | with_reducible refine pB h (λx hb h=>?_) | refine Zzr h (λx hb h=>?_)
    | with_reducible refine ZK4 ?_
    | (with_reducible refine ZBh ?_);refine ZBC h hK ?_;clear h hK;intro I μ v r h hK;(repeat rcases v with ⟨_,v⟩);(try dsimp only at h)
    | with_reducible refine ⟨by assumption,?_⟩
    | with_reducible refine orL ?_
    | with_reducible refine .inr ?_
    | (with_reducible refine ZEF ?_);first | refine ⟨?_,True.intro⟩ | refine ⟨?_,?_⟩
    | refine ⟨by kernel_rfl,?_⟩
    | refine ⟨by decide,?_⟩
    | with_reducible refine Zvf h (λhp h=>?_)
    | intro fp
    | exact trivial
    | with_reducible exact ZD5 h
    | (refine pS h (λe=>?_));subst e;(repeat (first | exact hK | exact ⟨⟨rfl,rfl⟩,hK.1 _ rfl⟩ | (refine pR hK (λe hK=>?_));subst e));done
    | refine Zvf h (λhp h=>?_)
    | refine ⟨by assumption,?_⟩
    | with_reducible refine pG h (λhp h=>?_) | with_reducible refine pA h (λx ha hb hx h=>?_) | with_reducible refine pB h (λx hb h=>?_)
    | refine pG h (λhp h=>?_)
    | fail
theorem ZPX (q2:Sq 115 ZJg) (q3:Sq 49 ZGa) (q1:Sq 108 c198) (q0:Sq 116 ZHx):Sq 50 ZJi:=by
 refine G8 Zn (Zd q2 (Zd q3 (Zd q1 (Zd q0 Zi)))) {loops:=[(0,[.reg 6 (.own (.ol 2 (.flat Iq))),.reg 18 (.dat Iq)])]} Tryz.func50 ?_;rintro ⟨e0,b0,⟨⟩⟩ K ⟨r,h,hK⟩
 change Za2 e0 b0=some r at h
 unfold Za2 at h
 conv=>whnf
 refine QL h (λtouched0 hb0 h=>?_)
 conv=>whnf
 refine QL h (λapply0 hb1 h=>?_)
 conv=>whnf
 intro fp2
 conv=>whnf
 intro fp3
 conv=>whnf
 intro fp4
 conv=>whnf
 refine QL h (λplaces0 hb5 h=>?_)
 conv=>whnf
 refine Zwp h ?_;rintro I6 μ6 ⟨list0,v0,⟨⟩⟩ zs6 h hI6 hR6
 change VG touched0 places0 list0 v0=some zs6 at h
 unfold VG at h
 conv=>whnf
 refine Zlo h (λh=>?_) (λh=>?_)
 conv=>whnf
 refine vAt h (λx0 he7a he7b he7x h=>?_)
 conv=>whnf
 refine ⟨by kernel_rfl,?_⟩
 conv=>whnf
 refine ⟨he7a,he7b,ZaC he7x ?_⟩
 conv=>whnf
 refine QL h (λint64_0 hb8 h=>?_)
 conv=>whnf
 refine Zwo h (λh=>?_) (λh=>?_)
 conv=>whnf
 refine Zvf h (λhp9 h=>?_)
 conv=>whnf
 cases h;exact ⟨⟨rfl,rfl⟩,hI6 _ rfl⟩
 conv=>whnf
 cases h;exact ⟨⟨rfl,rfl⟩,hI6 _ rfl⟩
 conv=>whnf
 cases h;obtain rfl:=hR6 _ rfl;exact hK
theorem ZPU (q1:Sq 108 c198) (q0:Sq 187 c222) (q2:Sq 185 ZDT) (q4:Sq 188 Zrd) (q3:Sq 189 ZmM):Sq 115 ZJg:=by
 refine G8 Zn (Zd q1 (Zd q0 (Zd q2 (Zd q4 (Zd q3 Zi))))) {draws:=[(5,[],.o [0,1,2,4,5] (.alt 3 (.u 6 6 (.alt 12 (.op 13 .done) .done)) .done)),(7,[],.o [0,2,3,7,8] (.alt 1 (.o [4,5,6] (.a [9,10] (.op 11 .done))) .done)),(11,[],.o [0,2,3,7,8] (.alt 1 (.o [4,5,6] (.alt 9 (.op 10 .done) .done)) .done))]} Tryz.func115 ?_;rintro ⟨a0,a1,⟨⟩⟩ K ⟨r,h,hK⟩
 change Jt a0 a1=some r at h
 unfold Jt at h
 conv=>whnf
 refine Zlo h (λh=>?_) (λh=>?_)
 conv=>whnf
 refine ⟨by kernel_rfl,?_⟩
 conv=>whnf
 refine QL h (λplaces0 hb0 h=>?_)
 conv=>whnf
 refine vAt h (λx0 he1a he1b he1x h=>?_)
 conv=>whnf
 refine ⟨by kernel_rfl,?_⟩
 conv=>whnf
 refine ⟨he1a,he1b,ZaC he1x ?_⟩
 conv=>whnf
 refine vAt h (λx1 he2a he2b he2x h=>?_)
 conv=>whnf
 refine QL h (λint64_0 hb3 h=>?_)
 conv=>whnf
 refine ⟨trivial,?_⟩
 conv=>whnf
 refine QL h (λsrtO0 hb4 h=>?_)
 conv=>whnf
 refine QL h (λcmpctO0 hb5 h=>?_)
 conv=>whnf
 cases h;exact hK
 conv=>whnf
 refine Zlo h (λh=>?_) (λh=>?_)
 conv=>whnf
 refine ⟨by kernel_rfl,?_⟩
 conv=>whnf
 refine QL h (λplaces0 hb6 h=>?_)
 conv=>whnf
 refine vAt h (λx0 he7a he7b he7x h=>?_)
 conv=>whnf
 refine ⟨by kernel_rfl,?_⟩
 conv=>whnf
 refine ⟨he7a,he7b,ZaC he7x ?_⟩
 conv=>whnf
 refine QL h (λstring0 hb8 h=>?_)
 conv=>whnf
 refine ⟨trivial,?_⟩
 conv=>whnf
 refine QL h (λsrtO0 hb9 h=>?_)
 conv=>whnf
 refine QL h (λcmpctO0 hb10 h=>?_)
 conv=>whnf
 cases h;exact hK
 conv=>whnf
 refine Zlo h (λh=>?_) (λh=>?_)
 conv=>whnf
 refine vAt h (λx0 he11a he11b he11x h=>?_)
 conv=>whnf
 refine vAt h (λx1 he12a he12b he12x h=>?_)
 conv=>whnf
 refine QL h (λsrtO0 hb13 h=>?_)
 conv=>whnf
 refine QL h (λcmpctO0 hb14 h=>?_)
 conv=>whnf
 cases h;exact hK
 conv=>whnf
 refine Zlo h (λh=>?_) (λh=>?_)
 conv=>whnf
 refine ⟨by kernel_rfl,?_⟩
 conv=>whnf
 refine QL h (λplaces0 hb15 h=>?_)
 conv=>whnf
 refine vAt h (λx0 he16a he16b he16x h=>?_)
 conv=>whnf
 refine ⟨by kernel_rfl,?_⟩
 conv=>whnf
 refine ⟨he16a,he16b,ZaC he16x ?_⟩
 conv=>whnf
 refine ⟨trivial,?_⟩
 conv=>whnf
 refine QL h (λsrtO0 hb17 h=>?_)
 conv=>whnf
 refine QL h (λcmpctO0 hb18 h=>?_)
 conv=>whnf
 cases h;exact hK
 conv=>whnf
 refine Zlo h (λh=>?_) (λh=>?_)
 conv=>whnf
 refine QL h (λsrtO0 hb19 h=>?_)
 conv=>whnf
 refine QL h (λcmpctO0 hb20 h=>?_)
 conv=>whnf
 cases h;exact hK
 conv=>whnf
 refine QL h (λsrtO0 hb21 h=>?_)
 conv=>whnf
 refine QL h (λcmpctO0 hb22 h=>?_)
 conv=>whnf
 cases h;exact hK
theorem ZPS (q0:Sq 244 ZI2) (q2:Sq 187 c222) (q1:Sq 245 ZI3) (q3:Sq 246 ZI4):Sq 183 ZI5:=by
 refine G8 YX (Zd q0 (Zd q2 (Zd q1 (Zd q3 Zi)))) {loops:=[(0,[.reg 11 (.dat Iq),.cello 1003 0 (.ol 236 (Zqi))]),(2,[.reg 30 (.dat Iq),.splt 7 280 Zzv])],draws:=[(5,[],.o [0,1,3,4] (.alt 2 (.op 6 (.a [5,7] (.op 8 (.d 9)))) .done)),(10,[],.u 0 4 (.o [5,6,7,9,10] (.alt 4 (.a [8,11] (.o [12,13] (.alt 14 (.o [15,16] (.d 17)) .done))) (.alt 8 (.alt 4 (.alt 11 (.o [12,13] (.alt 14 (.o [15,16] (.d 17)) .done)) .done) (.alt 11 (.o [12,13] (.alt 4 (.alt 14 (.o [15,16] (.d 17)) .done) (.a [14,4] (.o [15,16] (.d 17))))) .done)) .done))))]} Tryz.func183 ?_;rintro ⟨l0,⟨⟩⟩ K ⟨r,h,hK⟩
 change Jv l0=some r at h
 unfold Jv at h
 conv=>whnf
 refine Zwp h ?_;rintro I0 μ0 ⟨v0,c0,⟨⟩⟩ zs0 h hI0 hR0
 change X4 l0 v0 c0=some zs0 at h
 unfold X4 at h
 conv=>whnf
 intro fp1
 conv=>whnf
 refine Zlo h (λh=>?_) (λh=>?_)
 conv=>whnf
 refine vAt h (λx0 he2a he2b he2x h=>?_)
 conv=>whnf
 refine ⟨by kernel_rfl,?_⟩
 conv=>whnf
 refine QL h (λPin0 hb3 h=>?_)
 conv=>whnf
 refine QL h (λint64_0 hb4 h=>?_)
 conv=>whnf
 refine ⟨trivial,?_⟩
 conv=>whnf
 refine QL h (λArc0 hb5 h=>?_)
 conv=>whnf
 refine Zwp h ?_;rintro I6 μ6 ⟨v1,l1,⟨⟩⟩ zs6 h hI6 hR6
 change QW v0 c0 x0 Pin0 int64_0 Arc0 v1 l1=some zs6 at h
 unfold QW at h
 conv=>whnf
 intro fp7
 conv=>whnf
 refine Zlo h (λh=>?_) (λh=>?_)
 focus
  conv=>whnf
  refine vAt h (λx1 he8a he8b he8x h=>?_)
  conv=>whnf
  refine Zvf h (λhp9 h=>?_)
  conv=>whnf
  refine ⟨he8a,he8b,ZaC he8x ?_⟩
  conv=>whnf
  refine ⟨by kernel_rfl,?_⟩
  conv=>whnf
  obtain ⟨cloneTables0,hb10,h⟩:=US.1 h;obtain ⟨cloneTables1,hb12,h⟩:=US.1 h;obtain ⟨hp14,h⟩:=guardE h;obtain ⟨x2,he15a,he15b,he15x,h⟩:=atE h;refine ⟨?_,?_⟩;rotate_left
  focus
   conv=>whnf
   refine ⟨_,hb10,?_⟩
   conv=>whnf
   intro fp16
   conv=>whnf
   refine ⟨?_,?_⟩;rotate_left
   focus
    conv=>whnf
    refine ⟨_,hb12,?_⟩
    conv=>whnf
    intro fp17
    conv=>whnf
    refine ⟨he8a,he8b,ZaC he8x ?_⟩
    conv=>whnf
    refine ⟨?_,?_⟩;rotate_left
    focus
     conv=>whnf
     refine ⟨hp14,?_⟩
     conv=>whnf
     refine ⟨he15a,he15b,ZaC he15x ?_⟩
     conv=>whnf
     refine ⟨he8a,he8b,ZaC he8x ?_⟩
     conv=>whnf
     refine ⟨hp14,?_⟩
     conv=>whnf
     refine ⟨trivial,?_⟩
    rotate_right
    focus
     conv=>whnf
     refine ⟨hp14,?_⟩
     conv=>whnf
     refine ⟨he15a,he15b,ZaC he15x ?_⟩
     conv=>whnf
     refine ⟨he8a,he8b,ZaC he8x ?_⟩
     conv=>whnf
     refine ⟨hp14,?_⟩
     conv=>whnf
     refine ⟨trivial,?_⟩
   rotate_right
   focus
    conv=>whnf
    refine ⟨_,hb12,?_⟩
    conv=>whnf
    intro fp17
    conv=>whnf
    refine ⟨he8a,he8b,ZaC he8x ?_⟩
    conv=>whnf
    refine ⟨hp14,?_⟩
    conv=>whnf
    refine ⟨he15a,he15b,ZaC he15x ?_⟩
    conv=>whnf
    refine ⟨he8a,he8b,ZaC he8x ?_⟩
    conv=>whnf
    refine ⟨hp14,?_⟩
    conv=>whnf
    refine ⟨trivial,?_⟩
  rotate_right
  focus
   conv=>whnf
   refine ⟨_,hb10,?_⟩
   conv=>whnf
   intro fp16
   conv=>whnf
   refine ⟨_,hb12,?_⟩
   conv=>whnf
   intro fp17
   conv=>whnf
   refine ⟨he8a,he8b,ZaC he8x ?_⟩
   conv=>whnf
   refine ⟨hp14,?_⟩
   conv=>whnf
   refine ⟨he15a,he15b,ZaC he15x ?_⟩
   conv=>whnf
   refine ⟨he8a,he8b,ZaC he8x ?_⟩
   conv=>whnf
   refine ⟨hp14,?_⟩
   conv=>whnf
   refine ⟨trivial,?_⟩
  all_goals
   conv=>whnf
   cases h;exact ⟨⟨rfl,rfl⟩,hI6 _ rfl⟩
 conv=>whnf
 refine Zvf h (λhp18 h=>?_)
 conv=>whnf
 intro fp19
 conv=>whnf
 refine Zvf h (λhp20 h=>?_)
 conv=>whnf
 intro fp21
 conv=>whnf
 cases h;obtain rfl:=hR6 _ rfl;exact ⟨⟨rfl,rfl⟩,hI0 _ rfl⟩
 conv=>whnf
 cases h;obtain rfl:=hR0 _ rfl;exact hK
end Go.Proofs.YtjepimjoknccmaaGreatDoor
