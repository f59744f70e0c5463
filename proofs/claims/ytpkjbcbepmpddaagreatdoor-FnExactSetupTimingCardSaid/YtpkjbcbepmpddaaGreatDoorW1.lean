/-
  The functions keep their contracts, if what they call does. Printed by program.
-/
import Derived.Test.YtpkjbcbepmpddaaGreatDoorM
import Derived.KernelRfl
namespace Go.Proofs.YtpkjbcbepmpddaaGreatDoor
open Go Go.Sx
set_option maxRecDepth 100000
set_option maxHeartbeats 100000000
set_option linter.unusedVariables false
set_option linter.unusedSimpArgs false
structure Ws1:Prop where
 w252:Sq 215 ZJb
 w160:Sq 358 c160
 w155:Sq 353 ZId->Sq 354 ZIh->Sq 355 c152->Sq 356 c154->Sq 341 ZF0->Sq 90 Zsp->Sq 338 ZIk
 w164:Sq 341 ZF0->Sq 240 c141->Sq 342 ZIn->Sq 324 c164
 w259:Sq 312 ZJg
 w170:Sq 292 ZIq->Sq 90 Zsp->Sq 236 ZHl
 w165:Sq 296 c130->Sq 322 ZIc->Sq 323 c159->Sq 90 Zsp->Sq 324 c164->Sq 288 ZIo
 w215:Sq 248 c213->Sq 91 ZHp->Sq 90 Zsp->Sq 242 ZDF->Sq 200 ZIO
 w178:Sq 233 ZIp->Sq 234 c167->Sq 235 ZIs->Sq 236 ZHl->Sq 237 ZIu->Sq 189 ZIv
 w166:Sq 288 ZIo->Sq 242 ZDF->Sq 233 ZIp
 w217:Sq 143 c182->Sq 92 ZHo->Sq 144 ZIP->Sq 89 ZIQ
 w203:Sq 222 ZII->Sq 169 c203
 w180:Sq 90 Zsp->Sq 239 ZIw
 w141:Sq 290 ZIe->Sq 240 c141
 w138:Sq 90 Zsp->Sq 294 c138
 w267:Sq 157 ZHq->Sq 218 ZI7->Sq 219 ZJa->Sq 220 ZJm->Sq 221 ZJn->Sq 168 ZJo
 w237:Sq 153 c236->Sq 152 ZIZ
 w225:Sq 152 ZIU->Sq 166 ZIV
 w223:Sq 217 ZIT
 w227:Sq 96 c226->Sq 150 c227
 w220:Sq 164 ZIR
 w268:Sq 167 ZI5->Sq 168 ZJo->Sq 169 c203->Sq 97 ZJp
 w229:Sq 163 ZFI->Sq 207 c228->Sq 202 ZHm->Sq 206 c229
 w195:Sq 90 Zsp->Sq 295 c193->Sq 159 c194->Sq 241 ZIE
 w204:Sq 90 Zsp->Sq 298 ZIJ
 w192:Sq 191 ZID
 w240:Sq 213 ZI2
 w198:Sq 216 ZF1->Sq 90 Zsp->Sq 195 c198
 w199:Sq 195 c198->Sq 194 ZIF
 w209:Sq 199 c208->Sq 198 ZIM
 w263:Sq 332 ZJj->Sq 310 ZFJ->Sq 313 ZJk
 w279:Sq 314 ZJx->Sq 275 ZJy
 w280:Sq 275 ZJy->Sq 224 ZJz
 w281:Sq 223 ZJv->Sq 224 ZJz->Sq 173 ZDG->Sq 170 ZJA
 w294:Sq 104 ZJM->Sq 42 ZJN
 w299:Sq 107 ZJS
 w296:Sq 105 ZJO->Sq 43 ZJP
 w284:Sq 173 ZDG->Sq 171 ZJD
 w276:Sq 173 ZDG
 w283:Sq 99 ZJB->Sq 39 ZJC
 w288:Sq 172 ZJG->Sq 102 ZJH
 w301:Sq 42 ZJN->Sq 43 ZJP->Sq 44 ZJR->Sq 45 ZJT->Sq 12 ZJU
 w271:Sq 98 ZHt
 w272:Sq 98 ZHt->Sq 38 ZJs
 w323:Sq 55 ZKe
 w325:Sq 55 ZKe->Sq 56 ZKf->Sq 16 ZKg
 w314:Sq 46 ZJZ->Sq 47 ZJ3->Sq 48 ZJ4->Sq 13 ZJ5
 w315:Sq 113 ZBK->Sq 49 ZJ6
 w318:Sq 113 ZBK->Sq 52 ZJ9
 w309:Sq 113 ZBK->Sq 112 ZDH->Sq 109 ZJ0
 w321:Sq 54 ZKc
 w5:Sq 276 c4->Sq 227 c5
 w6:Sq 227 c5->Sq 177 c6
 w18:Sq 17 c9->Sq 18 c15->Sq 19 c17->Sq 4 c18
 w7:Sq 176 c1->Sq 177 c6->Sq 117 c2->Sq 114 c7
 w25:Sq 64 c24->Sq 23 c25
 w23:Sq 63 c22->Sq 22 c23
 w21:Sq 21 c21
 w10:Sq 117 c2->Sq 115 c10
 w13:Sq 116 c13
 w4:Sq 315 c3->Sq 276 c4
 w17:Sq 61 c16->Sq 19 c17
 w45:Sq 29 c36->Sq 30 c42->Sq 31 c44->Sq 7 c45
 w34:Sq 187 c28->Sq 188 c33->Sq 141 c29->Sq 138 c34
 w35:Sq 138 c34->Sq 80 c35
 w46:Sq 85 c46
 w54:Sq 88 c53->Sq 35 c54
 w52:Sq 87 c51->Sq 34 c52
 w37:Sq 141 c29->Sq 139 c37
 w28:Sq 231 c27->Sq 187 c28
 w40:Sq 140 c40
 w41:Sq 140 c40->Sq 83 c41
 w55:Sq 32 c47->Sq 33 c50->Sq 34 c52->Sq 35 c54->Sq 8 c55
 w255:Sq 256 ZJc->Sq 364 ZJd->Sq 351 ZJe
 w185:Sq 202 ZHm
 w201:Sq 243 ZIH->Sq 193 c201
 w211:Sq 245 c210->Sq 197 ZIN
 w173:Sq 325 ZIr->Sq 290 c173
 w157:Sq 340 c156->Sq 357 c157
 w139:Sq 294 c138->Sq 325 c139
 w145:Sq 369 c145
 w82:Sq 65 c73->Sq 124 c81->Sq 25 c57->Sq 69 c82
 w61:Sq 352 c60->Sq 334 c61
 w105:Sq 126 ZHe->Sq 72 c90->Sq 75 c93->Sq 74 c92->Sq 184 ZHY->Sq 128 c105
 w113:Sq 284 ZFG
 w59:Sq 25 c57->Sq 365 c59
 w108:Sq 335 ZH0
 w63:Sq 25 c57->Sq 316 c62->Sq 278 c63
 w64:Sq 279 c64
 w56:Sq 181 c56
 w109:Sq 336 c109
 w89:Sq 68 c70->Sq 131 c89
 w70:Sq 68 c70
 w71:Sq 68 c70->Sq 120 c71
 w116:Sq 317 ZHg->Sq 319 c116
 w110:Sq 335 ZH0->Sq 68 c70->Sq 120 c71->Sq 336 c109->Sq 317 ZHg
 w120:Sq 320 ZH3
 w104:Sq 184 ZHY
 w87:Sq 132 c87
 w111:Sq 68 c70->Sq 317 ZHg->Sq 280 ZHh
 w115:Sq 68 c70->Sq 283 ZHj
 w106:Sq 65 c73->Sq 123 c78->Sq 126 ZHe->Sq 127 ZHX->Sq 128 c105->Sq 71 ZHZ
 w126:Sq 75 c93->Sq 133 c107->Sq 134 ZH7->Sq 135 ZHf->Sq 73 ZH8
 w123:Sq 229 c119->Sq 230 ZH5->Sq 185 ZH6
 w79:Sq 123 c78->Sq 67 c79
 w84:Sq 68 c70->Sq 25 c57->Sq 125 c83->Sq 70 c84
 w99:Sq 78 c76->Sq 79 c98->Sq 28 c99
set_option maxHeartbeats 100000000 in
theorem ws1:Ws1:=by
 refine ⟨(Ze Zq Zi mixed {} Tryz.func215 (hvc:=?_)),
 (Ze Zq Zi mixed {} Tryz.func358 (hvc:=?_)),
 (λq4 q3 q2 q0 q1 q5=>Ze Zq (Zb q4 (Zb q3 (Zb q2 (Zb q0 (Zb q1 (Zb q5 Zi)))))) mixed {draws:=[(2,[],.u 0 12 (.alt 12 (.u 13 5 (.alt 18 (.u 19 11 (.alt 30 (.u 31 9 .done) .done)) .done)) .done)),(3,[],.o [0,1] (.alt 2 (.u 3 4 (.alt 7 (.u 8 6 (.alt 14 (.u 15 6 (.alt 21 (.o [22,23] .done) .done)) .done)) .done)) .done))]} Tryz.func338 (hvc:=?_)),
 (λq0 q1 q2=>Ze Zq (Zb q0 (Zb q1 (Zb q2 Zi))) mixed {loops:=[(0,[.reg 3 (.dat Iq),.reg 9 (.dat Iq)])],draws:=[(10,[],.u 0 7 (.alt 7 (.u 8 6 (.alt 14 (.o [15,16] .done) .done)) .done)),(12,[],.u 0 10 (.alt 10 (.u 11 4 (.op 16 (.a [15,17] (.o [18,19,20] .done)))) .done))]} Tryz.func324 (hvc:=?_)),
 (Ze Zq Zi mixed {} Tryz.func312 (hvc:=?_)),
 (λq0 q1=>Ze Zq (Zb q0 (Zb q1 Zi)) mixed {} Tryz.func236 (hvc:=?_)),
 (λq3 q2 q1 q4 q0=>Ze Zq (Zb q3 (Zb q2 (Zb q1 (Zb q4 (Zb q0 Zi))))) mixed {} Tryz.func288 (hvc:=?_)),
 (λq1 q0 q3 q2=>Ze Zq (Zb q1 (Zb q0 (Zb q3 (Zb q2 Zi)))) mixed {loops:=[(0,[.reg 3 (.own (.ol 9 (.flat (.str)))),.reg 8 (.dat Iq)])]} Tryz.func200 (hvc:=?_)),
 (λq4 q2 q1 q3 q0=>Ze Zq (Zb q4 (Zb q2 (Zb q1 (Zb q3 (Zb q0 Zi))))) mixed {loops:=[(0,[.reg 25 (.dat Iq),.ent 2 (nat_lit 3) (.flat Zwb.ety)]),(2,[.reg 51 (.dat Iq),.ent 2 (nat_lit 3) (.flat Zwb.ety)])]} Tryz.func189 (hvc:=?_)),
 (λq1 q0=>Ze Zq (Zb q1 (Zb q0 Zi)) mixed {loops:=[(0,[.reg 3 (.own (.ol 9 (.flat (.str)))),.reg 9 (.dat Iq)])]} Tryz.func233 (hvc:=?_)),
 (λq1 q2 q0=>Ze Zq (Zb q1 (Zb q2 (Zb q0 Zi))) mixed {draws:=[(1,[],.op 0 (.alt 1 (.o [2,3,5] (.a [4,6] (.o [7,8] .done))) .done))]} Tryz.func89 (hvc:=?_)),
 (λq0=>Ze Zq (Zb q0 Zi) mixed {} Tryz.func169 (hvc:=?_)),
 (λq0=>Ze Zq (Zb q0 Zi) mixed {loops:=[(0,[.reg 8 (.dat Iq)])]} Tryz.func239 (hvc:=?_)),
 (λq0=>Ze Zq (Zb q0 Zi) mixed {} Tryz.func240 (hvc:=?_)),
 (λq0=>Ze Zq (Zb q0 Zi) mixed {} Tryz.func294 (hvc:=?_)),
 (λq3 q0 q4 q1 q2=>Ze Zq (Zb q3 (Zb q0 (Zb q4 (Zb q1 (Zb q2 Zi))))) mixed {loops:=[(0,[.reg 39 (.dat Iq),.cell 1012 0 Iq,.cell 1012 1 Iq,.cell 1012 2 Iq,.cell 1012 3 Iq,.cell 1012 4 Iq,.cell 1013 0 (.bool)])],draws:=[(11,[],.u 0 11 (.alt 11 (.o [12,13,14] (.alt 15 (.a [16,17,18] .done) (.a [16,15,17,18] .done))) (.alt 15 (.alt 11 (.o [12,13,14] (.a [16,17,18] .done)) (.a [16,11] (.o [12,13,14] (.a [17,18] .done)))) (.alt 16 (.alt 11 (.o [12,13,14] (.a [15,17,18] .done)) (.a [15,11] (.o [12,13,14] (.a [17,18] .done)))) .done)))),(12,[],.u 0 6 (.op 7 (.a [6,8] .done))),(16,[],.o [0,1] (.d 2))]} Tryz.func168 (hvc:=?_)),
 (λq0=>Ze Zq (Zb q0 Zi) mixed {loops:=[(0,[.reg 5 (.own (.ol 2 (.flat Iq))),.reg 16 (.dat Iq)])]} Tryz.func152 (hvc:=?_)),
 (λq0=>Ze Zq (Zb q0 Zi) mixed {} Tryz.func166 (hvc:=?_)),
 (Ze Zq Zi mixed {} Tryz.func217 (hvc:=?_)),
 (λq0=>Ze Zq (Zb q0 Zi) mixed {} Tryz.func150 (hvc:=?_)),
 (Ze Zq Zi mixed {} Tryz.func164 (hvc:=?_)),
 (λq1 q0 q2=>Ze Zq (Zb q1 (Zb q0 (Zb q2 Zi))) mixed {loops:=[(0,[.reg 22 (.dat Iq),.cello 1008 0 (.ol 4 (.flat (.bool))),.cello 1008 1 (.ol 160 (.flat (Xg))),.cello 1008 2 (.ol 160 (.flat (Xg))),.ent 2 (nat_lit 4) (.flat Ty.bool),.ent 3 (nat_lit 160) (.flat Xg),.ent 4 (nat_lit 160) (.flat Xg)])],draws:=[(8,[],.u 0 4 (.o [5,6,8,9,10,12,14] (.l [4,7,11,13] (.alt 15 (.op 16 (.alt 17 (.op 18 (.d 19)) .done)) .done))))]} Tryz.func97 (hvc:=?_)),
 (λq1 q2 q0=>Ze ZEF (Zb q1 (Zb q2 (Zb q0 Zi))) mixed {loops:=[(0,[.reg 29 (.dat Iq),.ent 0 (nat_lit 84) (Dp.ol (2:Go.TypeId) (Dp.flat (Ty.int IntKind.i64)))]),(2,[.reg 13 (.own (.ol 2 (.flat Iq))),.ent 0 (nat_lit 84) (Dp.ol (2:Go.TypeId) (Dp.flat (Ty.int IntKind.i64))),.ent 1 (nat_lit 4) (.flat ZGW.ety)])]} Tryz.func206 (hvc:=?_)),
 (λq1 q0 q2=>Ze Zq (Zb q1 (Zb q0 (Zb q2 Zi))) mixed {} Tryz.func241 (hvc:=?_)),
 (λq0=>Ze Zq (Zb q0 Zi) mixed {} Tryz.func298 (hvc:=?_)),
 (Ze Zq Zi mixed {} Tryz.func191 (hvc:=?_)),
 (Ze Zq Zi mixed {} Tryz.func213 (hvc:=?_)),
 (λq0 q1=>Ze Zq (Zb q0 (Zb q1 Zi)) mixed {} Tryz.func195 (hvc:=?_)),
 (λq0=>Ze Zq (Zb q0 Zi) mixed {} Tryz.func194 (hvc:=?_)),
 (λq0=>Ze Zq (Zb q0 Zi) mixed {} Tryz.func198 (hvc:=?_)),
 (λq1 q0=>Ze Zq (Zb q1 (Zb q0 Zi)) mixed {} Tryz.func313 (hvc:=?_)),
 (λq0=>Ze Zq (Zb q0 Zi) mixed {} Tryz.func275 (hvc:=?_)),
 (λq0=>Ze Zq (Zb q0 Zi) mixed {loops:=[(0,[.reg 5 (.dat Iq)])],draws:=[(6,[],.u 0 8 (.alt 8 (.op 9 .done) .done))]} Tryz.func224 (hvc:=?_)),
 (λq1 q2 q0=>Ze Zq (Zb q1 (Zb q2 (Zb q0 Zi))) mixed {} Tryz.func170 (hvc:=?_)),
 (λq0=>Ze Zq (Zb q0 Zi) mixed {loops:=[(0,[.reg 5 (.dat Iq)])],draws:=[(6,[],.u 0 8 (.alt 8 (.op 9 .done) .done))]} Tryz.func42 (hvc:=?_)),
 (Ze Zq Zi mixed {} Tryz.func107 (hvc:=?_)),
 (λq0=>Ze Zq (Zb q0 Zi) mixed {loops:=[(0,[.reg 5 (.dat Iq)])],draws:=[(6,[],.u 0 8 (.alt 8 (.op 9 .done) .done))]} Tryz.func43 (hvc:=?_)),
 (λq0=>Ze Zq (Zb q0 Zi) mixed {} Tryz.func171 (hvc:=?_)),
 (Ze Zq Zi mixed {loops:=[(0,[.reg 5 (.dat Iq)])],draws:=[(6,[],.u 0 9 .done)]} Tryz.func173 (hvc:=?_)),
 (λq0=>Ze Zq (Zb q0 Zi) mixed {} Tryz.func39 (hvc:=?_)),
 (λq0=>Ze Zq (Zb q0 Zi) mixed {loops:=[(0,[.reg 5 (.dat Iq)])],draws:=[(6,[],.u 0 8 (.alt 8 (.op 9 .done) .done))]} Tryz.func102 (hvc:=?_)),
 (λq3 q1 q0 q2=>Ze Zq (Zb q3 (Zb q1 (Zb q0 (Zb q2 Zi)))) mixed {} Tryz.func12 (hvc:=?_)),
 (Ze Zq Zi mixed {} Tryz.func98 (hvc:=?_)),
 (λq0=>Ze Zq (Zb q0 Zi) mixed {loops:=[(0,[.reg 5 (.dat Iq)])],draws:=[(6,[],.u 0 8 (.alt 8 (.op 9 .done) .done))]} Tryz.func38 (hvc:=?_)),
 (Ze Zq Zi mixed {loops:=[(0,[.reg 1 (.dat Iq),.reg 5 (.dat Iq)])]} Tryz.func55 (hvc:=?_)),
 (λq0 q1=>Ze Zq (Zb q0 (Zb q1 Zi)) mixed {} Tryz.func16 (hvc:=?_)),
 (λq0 q1 q2=>Ze Xz (Zb q0 (Zb q1 (Zb q2 Zi))) mixed {} Tryz.func13 (hvc:=?_)),
 (λq0=>Ze Xz (Zb q0 Zi) mixed {loops:=[(0,[.reg 1 (.dat Iq),.reg 5 (.dat Iq),.ent 0 (nat_lit 137) (.flat Xh)])]} Tryz.func49 (hvc:=?_)),
 (λq0=>Ze Xz (Zb q0 Zi) mixed {loops:=[(0,[.reg 1 (.dat Iq),.reg 5 (.dat Iq),.ent 0 (nat_lit 83) (.flat Yd)])]} Tryz.func52 (hvc:=?_)),
 (λq1 q0=>Ze Xz (Zb q1 (Zb q0 Zi)) mixed {loops:=[(0,[.reg 1 (.dat Iq),.reg 5 (.dat Iq),.ent 0 (nat_lit 218) (Dp.pair (Dp.flat Ty.str) (Dp.pair (Dp.flat (Ty.int IntKind.i64)) (Dp.pair (Dp.ol (2:Go.TypeId) (Dp.flat (Ty.int IntKind.i64))) (Dp.flat Ty.unit))))])]} Tryz.func109 (hvc:=?_)),
 (Ze Xz Zi mixed {loops:=[(0,[.reg 1 (.dat Iq),.reg 5 (.dat Iq),.ent 0 (nat_lit 160) (.flat Xg)])]} Tryz.func54 (hvc:=?_)),
 (λq0=>Ze Zq (Zb q0 Zi) mixed {} Tryz.func227 (hvc:=?_)),
 (λq0=>Ze Zq (Zb q0 Zi) mixed {loops:=[(0,[.reg 1 (.dat Iq),.reg 5 (.dat Iq)])]} Tryz.func177 (hvc:=?_)),
 (λq0 q1 q2=>Ze Zq (Zb q0 (Zb q1 (Zb q2 Zi))) mixed {} Tryz.func4 (hvc:=?_)),
 (λq1 q2 q0=>Ze Zq (Zb q1 (Zb q2 (Zb q0 Zi))) mixed {} Tryz.func114 (hvc:=?_)),
 (λq0=>Ze Zq (Zb q0 Zi) mixed {loops:=[(0,[.reg 1 (.dat Iq),.reg 5 (.dat Iq)])]} Tryz.func23 (hvc:=?_)),
 (λq0=>Ze Zq (Zb q0 Zi) mixed {loops:=[(0,[.reg 1 (.dat Iq),.reg 5 (.dat Iq)])]} Tryz.func22 (hvc:=?_)),
 (Ze Zq Zi mixed {} Tryz.func21 (hvc:=?_)),
 (λq0=>Ze Zq (Zb q0 Zi) mixed {} Tryz.func115 (hvc:=?_)),
 (Ze Zq Zi mixed {} Tryz.func116 (hvc:=?_)),
 (λq0=>Ze Zq (Zb q0 Zi) mixed {loops:=[(0,[.reg 1 (.dat Iq),.reg 5 (.dat Iq)])]} Tryz.func276 (hvc:=?_)),
 (λq0=>Ze Zq (Zb q0 Zi) mixed {loops:=[(0,[.reg 1 (.dat Iq),.reg 5 (.dat Iq)])]} Tryz.func19 (hvc:=?_)),
 (λq0 q1 q2=>Ze Xz (Zb q0 (Zb q1 (Zb q2 Zi))) mixed {} Tryz.func7 (hvc:=?_)),
 (λq1 q2 q0=>Ze Xz (Zb q1 (Zb q2 (Zb q0 Zi))) mixed {} Tryz.func138 (hvc:=?_)),
 (λq0=>Ze Xz (Zb q0 Zi) mixed {loops:=[(0,[.reg 4 (.dat Iq),.ent 0 (nat_lit 230) ZtX])]} Tryz.func80 (hvc:=?_)),
 (Ze Zq Zi mixed {} Tryz.func85 (hvc:=?_)),
 (λq0=>Ze Zq (Zb q0 Zi) mixed {loops:=[(0,[.reg 4 (.dat Iq),.ent 0 (nat_lit 83) (.flat ZHO.ety)])]} Tryz.func35 (hvc:=?_)),
 (λq0=>Ze Xz (Zb q0 Zi) mixed {loops:=[(0,[.reg 4 (.dat Iq),.ent 0 (nat_lit 141) ZcL])]} Tryz.func34 (hvc:=?_)),
 (λq0=>Ze Zq (Zb q0 Zi) mixed {} Tryz.func139 (hvc:=?_)),
 (λq0=>Ze Zq (Zb q0 Zi) mixed {loops:=[(0,[.reg 4 (.dat Iq),.ent 0 (nat_lit 326) (.flat ZCS.ety)])]} Tryz.func187 (hvc:=?_)),
 (Ze Zq Zi mixed {} Tryz.func140 (hvc:=?_)),
 (λq0=>Ze Zq (Zb q0 Zi) mixed {loops:=[(0,[.reg 4 (.dat Iq),.ent 0 (nat_lit 221) (.flat ZHL.ety)])]} Tryz.func83 (hvc:=?_)),
 (λq3 q1 q0 q2=>Ze Xz (Zb q3 (Zb q1 (Zb q0 (Zb q2 Zi)))) mixed {} Tryz.func8 (hvc:=?_)),
 (λq1 q0=>Ze Zq (Zb q1 (Zb q0 Zi)) mixed {loops:=[(0,[.reg 7 (.dat Iq),.reg 8 (.dat Iq)])]} Tryz.func351 (hvc:=?_)),
 (Ze Zq Zi mixed {} Tryz.func202 (hvc:=?_)),
 (λq0=>Ze Zq (Zb q0 Zi) mixed {} Tryz.func193 (hvc:=?_)),
 (λq0=>Ze Zq (Zb q0 Zi) mixed {} Tryz.func197 (hvc:=?_)),
 (λq0=>Ze Zq (Zb q0 Zi) mixed {} Tryz.func290 (hvc:=?_)),
 (λq0=>Ze Zq (Zb q0 Zi) mixed {loops:=[(0,[.reg 8 (.dat Iq)])]} Tryz.func357 (hvc:=?_)),
 (λq0=>Ze Zq (Zb q0 Zi) mixed {loops:=[(0,[.reg 8 (.dat Iq)])]} Tryz.func325 (hvc:=?_)),
 (Ze Zq Zi mixed {loops:=[(0,[.reg 3 (.dat Iq),.reg 4 (.dat Iq)])]} Tryz.func369 (hvc:=?_)),
 (λq1 q0 q2=>Ze Zq (Zb q1 (Zb q0 (Zb q2 Zi))) mixed {} Tryz.func69 (hvc:=?_)),
 (λq0=>Ze Zq (Zb q0 Zi) mixed {loops:=[(0,[.reg 5 (.dat Iq),.cell 1004 0 Iq,.cell 1004 1 Iq])],draws:=[(3,[],.u 0 9 (.a [9,10] .done)),(7,[],.u 0 9 (.d 9)),(8,[],.u 0 9 (.d 9))]} Tryz.func334 (hvc:=?_)),
 (λq3 q0 q1 q4 q2=>Ze Zq (Zb q3 (Zb q0 (Zb q1 (Zb q4 (Zb q2 Zi))))) mixed {} Tryz.func128 (hvc:=?_)),
 (Ze Zq Zi mixed {} Tryz.func284 (hvc:=?_)),
 (λq0=>Ze Zq (Zb q0 Zi) mixed {loops:=[(0,[.reg 3 (.dat Iq)])],draws:=[(4,[],.u 0 4 (.alt 4 (.u 5 17 .done) .done))]} Tryz.func365 (hvc:=?_)),
 (Ze Zq Zi mixed {} Tryz.func335 (hvc:=?_)),
 (λq1 q0=>Ze Zq (Zb q1 (Zb q0 Zi)) mixed {} Tryz.func278 (hvc:=?_)),
 (Ze Zq Zi mixed {loops:=[(0,[.reg 4 (.dat Iq),.ent 1 (nat_lit 2) (.flat ZBD.ety)])]} Tryz.func279 (hvc:=?_)),
 (Ze Zq Zi mixed {loops:=[(0,[.reg 3 (.dat Iq)])]} Tryz.func181 (hvc:=?_)),
 (Ze Zq Zi mixed {draws:=[(3,[],.u 0 18 .done)]} Tryz.func336 (hvc:=?_)),
 (λq0=>Ze Zq (Zb q0 Zi) mixed {loops:=[(0,[.reg 6 (.dat Iq)])]} Tryz.func131 (hvc:=?_)),
 (Ze Zq Zi mixed {loops:=[(0,[.reg 3 (.own (.ol 220 (.flat (Zh0)))),.reg 4 (.dat Iq)]),(2,[.reg 3 (.own (.ol 220 (.flat (Zh0)))),.reg 6 (.dat Iq)]),(4,[.reg 3 (.own (.ol 220 (.flat (Zh0)))),.reg 7 (.dat Iq)])],draws:=[(13,[],.u 0 16 (.a [16,17] (.op 18 .done)))]} Tryz.func68 (hvc:=?_)),
 (λq0=>Ze Zq (Zb q0 Zi) mixed {loops:=[(0,[.reg 5 (.own (.ol 2 (.flat Iq))),.reg 7 (.dat Iq)])]} Tryz.func120 (hvc:=?_)),
 (λq0=>Ze Zq (Zb q0 Zi) mixed {loops:=[(0,[.reg 7 (.own (.ol 2 (.flat Iq))),.reg 8 (.dat Iq)])],draws:=[(7,[],.u 0 20 (.a [20,21] (.op 22 .done)))]} Tryz.func319 (hvc:=?_)),
 (λq2 q0 q1 q3=>Ze Zq (Zb q2 (Zb q0 (Zb q1 (Zb q3 Zi)))) mixed {loops:=[(0,[.reg 9 (.dat Iq),.ent 2 (nat_lit 2) (.flat (Ty.int IntKind.i64))]),(2,[.reg 10 (.dat Iq),.ent 2 (nat_lit 2) (.flat (Ty.int IntKind.i64))])],draws:=[(8,[],.u 0 19 (.alt 19 (.o [20,21] (.d 22)) .done)),(12,[],.u 0 14 (.d 14))]} Tryz.func317 (hvc:=?_)),
 (Ze Zq Zi mixed {loops:=[(0,[.reg 5 (.dat Iq),.reg 6 (.dat Iq)])]} Tryz.func320 (hvc:=?_)),
 (Ze Zq Zi mixed {loops:=[(0,[.reg 8 (.own (.ol 2 (.flat Iq))),.ent 1 (nat_lit 4) (.flat Zw8.ety)]),(2,[.reg 11 (.dat Iq),.ent 3 (nat_lit 4) (.flat Zw8.ety)]),(4,[.reg 12 (.dat Iq)])]} Tryz.func184 (hvc:=?_)),
 (Ze Xz Zi mixed {} Tryz.func132 (hvc:=?_)),
 (λq0 q1=>Ze Zq (Zb q0 (Zb q1 Zi)) mixed {draws:=[(1,[],.o [0,1,3,4,5] (.alt 2 (.o [6,7] (.a [8,9] .done)) (.a [8,2] (.o [6,7] (.d 9))))),(2,[],.u 0 21 (.alt 21 (.op 22 (.alt 23 (.alt 24 (.op 25 .done) .done) (.a [24,23] (.op 25 .done)))) .done))]} Tryz.func280 (hvc:=?_)),
 (λq0=>Ze Zq (Zb q0 Zi) mixed {draws:=[(1,[],.o [0,1,3,4,5] (.alt 2 (.u 6 4 .done) .done))]} Tryz.func283 (hvc:=?_)),
 (λq3 q2 q4 q1 q0=>Ze Zq (Zb q3 (Zb q2 (Zb q4 (Zb q1 (Zb q0 Zi))))) mixed {} Tryz.func71 (hvc:=?_)),
 (λq0 q1 q2 q3=>Ze Zq (Zb q0 (Zb q1 (Zb q2 (Zb q3 Zi)))) mixed {loops:=[(0,[.reg 15 (.dat Iq),.cello 2 0 (.ol 4 (.flat (.bool))),.cello 2 1 (.ol 160 (.flat (Xg))),.cello 2 2 (.ol 160 (.flat (Xg))),.ent 3 (nat_lit 4) (.flat Ty.bool),.ent 4 (nat_lit 160) (.flat Xg),.ent 5 (nat_lit 160) (.flat Xg)])]} Tryz.func73 (hvc:=?_)),
 (λq0 q1=>Ze Zq (Zb q0 (Zb q1 Zi)) mixed {draws:=[(1,[],.u 0 5 (.u 6 5 (.alt 5 (.alt 11 (.op 12 (.a [13,14] .done)) (.a [13,11] (.op 12 (.d 14)))) (.a [13,5,11] (.op 12 (.d 14)))))),(2,[],.u 0 4 (.u 5 4 (.alt 4 (.alt 9 (.op 10 (.a [11,12] .done)) (.a [11,9] (.op 10 (.d 12)))) (.a [11,4,9] (.op 10 (.d 12)))))),(3,[],.u 0 7 (.alt 7 (.o [8,9] (.d 10)) .done)),(4,[],.u 0 7 (.alt 7 (.o [8,9] (.d 10)) .done)),(5,[],.u 0 6 (.alt 6 (.o [7,8] (.d 9)) .done)),(6,[],.u 0 6 (.alt 6 (.o [7,8] (.d 9)) .done)),(7,[],.op 0 (.alt 1 (.a [2,3] .done) (.a [2,1,3] .done)))]} Tryz.func185 (hvc:=?_)),
 (λq0=>Ze Zq (Zb q0 Zi) mixed {loops:=[(0,[.reg 3 (.dat Iq)]),(2,[.reg 4 (.dat Iq)])],draws:=[(9,[],.u 0 11 .done)]} Tryz.func67 (hvc:=?_)),
 (λq0 q2 q1=>Ze Zq (Zb q0 (Zb q2 (Zb q1 Zi))) mixed {loops:=[(0,[.reg 10 (.dat Iq)])],draws:=[(6,[],.u 0 5 (.alt 5 (.u 6 23 (.alt 29 (.o [30,31] .done) .done)) .done))]} Tryz.func70 (hvc:=?_)),
 (λq1 q0=>Ze Zq (Zb q1 (Zb q0 Zi)) mixed {loops:=[(0,[.reg 3 (.dat (.sl (Qn))),.reg 4 (.dat Iq)]),(2,[.reg 3 (.dat (.sl (Qn))),.reg 9 (.dat Iq)])]} Tryz.func28 (hvc:=?_))⟩
 all_goals
  intro a;repeat rcases a with ⟨_,a⟩
  rintro K ⟨r,h,hK⟩;repeat'
    conv=>whnf
    first
    | with_reducible refine ZDU ?_
    | with_reducible refine Zov (by assumption) (by assumption) (by assumption) ?_
    | with_reducible refine Zsm (by assumption) ?_
    | with_reducible refine Zoz (by assumption) ?_
    | (with_reducible refine shD ?_);first | refine ZtH h (λh=>?_) (λh=>?_) | refine ZCX h (λh=>?_) (λh=>?_)
    | (with_reducible refine ZEw ?_);first | refine ZDr ?_ | refine Zs6 ?_
    | (with_reducible refine ZKz ?_);first | refine Zyt h (λh=>?_) (λh=>?_) | refine ZFA h (λh=>?_) (λh=>?_)
    | (with_reducible refine ZEv ?_);(refine ⟨λhd=>?_,?_⟩)<;>try subst hd
    | (with_reducible refine ZKB ?_);first | with_reducible refine Zj5 h (λx hb h=>?_) | refine Zoz (by assumption) ?_ | with_reducible refine pG h (λhp h=>?_) | with_reducible refine pA h (λx ha hb hx h=>?_) | with_reducible refine pB h (λx hb h=>?_) | refine Zj5 h (λx hb h=>?_)
    | (with_reducible refine ZKy ?_);first | with_reducible refine vAt h (λx ha hb hx h=>?_) | refine Zov (by assumption) (by assumption) (by assumption) ?_ | with_reducible refine pG h (λhp h=>?_) | with_reducible refine pA h (λx ha hb hx h=>?_) | with_reducible refine pB h (λx hb h=>?_) | refine vAt h (λx ha hb hx h=>?_)
    | (with_reducible refine ZEu ?_);first | with_reducible refine Zzj h (λx hb h=>?_) | refine Zsm (by assumption) ?_ | with_reducible refine pG h (λhp h=>?_) | with_reducible refine pA h (λx ha hb hx h=>?_) | with_reducible refine pB h (λx hb h=>?_) | refine Zzj h (λx hb h=>?_)
    | with_reducible refine ZKA ?_
    | (with_reducible refine ZA5 ?_);refine ZBo h hK ?_;clear h hK;intro I μ v r h hK;(repeat rcases v with ⟨_,v⟩);(try dsimp only at h)
    | with_reducible refine ⟨by assumption,?_⟩
    | with_reducible refine orL ?_
    | with_reducible refine .inr ?_
    | (with_reducible refine ZEx ?_);first | refine ⟨?_,True.intro⟩ | refine ⟨?_,?_⟩
    | refine ⟨by kernel_rfl,?_⟩
    | refine ⟨by decide,?_⟩
    | with_reducible refine ZFO h (λhp h=>?_)
    | intro fp
    | exact trivial
    | with_reducible exact ZDR h
    | (refine pS h (λe=>?_));subst e;(repeat (first | exact hK | exact ⟨⟨rfl,rfl⟩,hK.1 _ rfl⟩ | (refine pR hK (λe hK=>?_));subst e));done
    | refine ZFO h (λhp h=>?_)
    | refine ⟨by assumption,?_⟩
    | with_reducible refine pG h (λhp h=>?_) | with_reducible refine pA h (λx ha hb hx h=>?_) | with_reducible refine pB h (λx hb h=>?_)
    | refine pG h (λhp h=>?_)
    | fail
theorem ZO7 (q6:Sq 89 ZIQ) (q8:Sq 90 Zsp) (q0:Sq 91 ZHp) (q7:Sq 92 ZHo) (q3:Sq 93 c218) (q1:Sq 94 ZI0) (q5:Sq 95 ZI4) (q4:Sq 96 c226) (q2:Sq 97 ZJp):Sq 9 ZJq:=by
 refine Ze Zq (ZwD (ZAg Xz (Zb q6 (Zb q8 (Zb q0 (Zb q7 (Zb q3 (Zb q1 (Zb q5 (Zb q4 (Zb q2 Zi))))))))) mixed {draws:=[(6,[],.o [0,1] (.u 4 6 (.op 11 (.a [2,3,10] (.op 12 (.alt 13 (.op 14 .done) .done)))))),(10,[],.u 0 14 (.alt 14 (.u 15 5 (.alt 20 (.op 21 .done) .done)) .done))]} (fn:=Tryz.f36) Tryz.func36 (by kernel_rfl) (by kernel_rfl)) Zi) mixed {} (fn:=Tryz.f9) Tryz.func9 (by kernel_rfl) (by kernel_rfl) ?_;rintro ⟨b0,s0,corner0,⟨⟩⟩ K ⟨r,h,hK⟩
 change ZbA b0 s0 corner0=some r at h
 unfold ZbA at h
 conv=>whnf
 refine Zj5 h (λIsSetup0 hb0 h=>?_)
 conv=>whnf
 refine Zs6 ?_;refine Zyt h (λh=>?_) (λh=>?_)
 conv=>whnf
 refine Zj5 h (λCorner0 hb1 h=>?_)
 conv=>whnf
 refine Zj5 h (λwithin0 hb2 h=>?_)
 conv=>whnf
 refine Zs6 ?_;refine Zyt h (λh=>?_) (λh=>?_)
 conv=>whnf
 refine Zj5 h (λnewView0 hb3 h=>?_)
 conv=>whnf
 refine ⟨by kernel_rfl,?_⟩
 conv=>whnf
 refine vAt h (λx0 he4a he4b he4x h=>?_)
 conv=>whnf
 refine Zj5 h (λbreakLoops0 hb5 h=>?_)
 conv=>whnf
 refine Zj5 h (λgraphOf0 hb6 h=>?_)
 conv=>whnf
 refine Zj5 h (λsourcesOf0 hb7 h=>?_)
 conv=>whnf
 refine ⟨trivial,?_⟩
 conv=>whnf
 refine Zj5 h (λorder0 hb8 h=>?_)
 conv=>whnf
 refine Zs6 ?_;refine Zyt h (λh=>?_) (λh=>?_)
 conv=>whnf
 refine ⟨by kernel_rfl,?_⟩
 conv=>whnf
 refine Zj5 h (λpropagate0 hb9 h=>?_)
 conv=>whnf
 refine ⟨trivial,?_⟩
 conv=>whnf
 refine Zs6 ?_;refine Zyt h (λh=>?_) (λh=>?_)
 conv=>whnf
 refine Zs6 ?_;refine ZtH h (λh=>?_) (λh=>?_)
 conv=>whnf
 cases h;exact hK
 conv=>whnf
 cases h;exact hK
 conv=>whnf
 refine Zs6 ?_;refine ZtH h (λh=>?_) (λh=>?_)
 conv=>whnf
 cases h
 conv=>whnf
 cases h;exact hK
 conv=>whnf
 refine Zs6 ?_;refine ZtH h (λh=>?_) (λh=>?_)
 conv=>whnf
 cases h
 conv=>whnf
 cases h;exact hK
 conv=>whnf
 refine Zs6 ?_;refine ZtH h (λh=>?_) (λh=>?_)
 conv=>whnf
 cases h
 conv=>whnf
 cases h;exact hK
 conv=>whnf
 refine Zs6 ?_;refine ZtH h (λh=>?_) (λh=>?_)
 conv=>whnf
 cases h
 conv=>whnf
 cases h;exact hK
theorem ZO6 (q0:Sq 209 c234):Sq 154 ZIY:=by
 refine Ze Zq (Zb q0 Zi) mixed {} (fn:=Tryz.f154) Tryz.func154 (by kernel_rfl) (by kernel_rfl) ?_;rintro ⟨s0,v0,⟨⟩⟩ K ⟨r,h,hK⟩
 change YN s0 v0=some r at h
 unfold YN at h
 conv=>whnf
 refine Zj5 h (λint64_0 hb0 h=>?_)
 conv=>whnf
 cases h;exact hK
end Go.Proofs.YtpkjbcbepmpddaaGreatDoor
