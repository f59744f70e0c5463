/-
  The functions keep their contracts, if what they call does. Printed by program.
-/
import Derived.Test.YtoijdogpgpbddaaGreatDoorM
import Derived.KernelRfl
namespace Go.Proofs.YtoijdogpgpbddaaGreatDoor
open Go Go.Sx
set_option maxRecDepth 100000
set_option maxHeartbeats 100000000
set_option linter.unusedVariables false
set_option linter.unusedSimpArgs false
structure Ws1:Prop where
 w268:Sq 120 ZF9->Sq 117 c171->Sq 188 ZEm->Sq 146 ZHE->Sq 121 ZGB->Sq 122 ZGC->Sq 118 ZJv
 w250:Sq 188 ZEm->Sq 245 ZHC->Sq 248 ZJk
 w263:Sq 186 ZJq->Sq 187 ZJu->Sq 123 ZGA->Sq 116 ZHD
 w182:Sq 190 ZDL->Sq 117 c171->Sq 189 ZHw->Sq 206 ZIL->Sq 142 c182
 w151:Sq 337 ZIu->Sq 338 ZIw->Sq 312 ZIx
 w148:Sq 339 c148
 w144:Sq 363 c143->Sq 351 ZIt
 w155:Sq 338 c154->Sq 341 ZIz
 w156:Sq 340 c145->Sq 166 ZDK->Sq 341 ZIz->Sq 313 c156
 w226:Sq 281 c226
 w181:Sq 206 ZIL
 w166:Sq 243 c160->Sq 208 ZtO->Sq 193 ZIC->Sq 222 ZID
 w253:Sq 95 ZHv->Sq 115 ZJm->Sq 60 ZF8
 w252:Sq 184 ZJc->Sq 185 ZJl->Sq 115 ZJm
 w295:Sq 117 c171->Sq 116 ZHD->Sq 119 ZHF->Sq 139 ZJP->Sq 120 ZF9->Sq 123 ZGA->Sq 67 ZJQ
 w276:Sq 61 ZGa->Sq 68 ZF6->Sq 101 c208->Sq 70 ZHG->Sq 164 ZHy->Sq 72 ZHH->Sq 124 ZJy
 w246:Sq 294 ZJg
 w176:Sq 161 ZF5->Sq 162 c175->Sq 96 ZII
 w136:Sq 366 ZIo->Sq 166 ZDK->Sq 361 ZIp
 w212:Sq 234 c212
 w285:Sq 191 ZJE->Sq 192 ZJF->Sq 126 ZJG
 w172:Sq 208 ZtO->Sq 226 ZIH
 w126:Sq 161 ZF5->Sq 314 ZIl->Sq 266 ZGx
 w127:Sq 208 ZtO->Sq 336 ZHu->Sq 266 ZGx->Sq 311 c127
 w224:Sq 279 ZF7
 w234:Sq 173 ZIY->Sq 174 c213->Sq 175 ZHA->Sq 176 c232->Sq 177 c233->Sq 102 c234
 w201:Sq 170 ZIT->Sq 169 c201
 w205:Sq 169 ZIV->Sq 172 ZIW
 w206:Sq 163 ZDM->Sq 169 c201->Sq 171 ZIU->Sq 172 ZIW->Sq 100 c206
 w216:Sq 169 ZI0->Sq 175 ZHA
 w214:Sq 235 ZIZ
 w286:Sq 194 ZJH
 w192:Sq 208 ZtO->Sq 209 ZIP
 w188:Sq 164 ZHy
 w160:Sq 243 c160
 w265:Sq 146 ZHE
 w161:Sq 188 ZEm
 w229:Sq 321 c229
 w227:Sq 279 ZF7->Sq 280 c227
 w211:Sq 232 c210->Sq 173 ZIY
 w196:Sq 167 ZIQ->Sq 166 ZDK->Sq 168 ZGy->Sq 98 c196
 w208:Sq 163 ZDM->Sq 101 c208
 w232:Sq 236 c228->Sq 237 ZGz->Sq 238 ZI6->Sq 176 c232
 w314:Sq 38 ZPU->Sq 307 ZP8->Sq 261 ZP9
 w327:Sq 32 ZQd->Sq 33 ZQj->Sq 34 ZQk->Sq 10 ZQl
 w316:Sq 37 ZPV->Sq 38 ZPU->Sq 210 ZP6->Sq 211 ZQa->Sq 151 ZP1->Sq 148 ZQb
 w319:Sq 37 ZPV->Sq 38 ZPU->Sq 151 ZP1->Sq 149 ZQe
 w315:Sq 35 ZPM->Sq 261 ZP9->Sq 211 ZQa
 w317:Sq 35 ZPM->Sq 148 ZQb->Sq 76 ZQc
 w311:Sq 35 ZPM->Sq 38 ZPU->Sq 151 ZP1
 w326:Sq 35 ZPM->Sq 80 ZP2->Sq 34 ZQk
 w309:Sq 37 ZPV->Sq 38 ZPU->Sq 81 ZP0->Sq 260 ZP5
 w306:Sq 81 ZP0->Sq 35 ZPM
 w307:Sq 35 ZPM->Sq 81 ZP0->Sq 37 ZPV
 w325:Sq 151 ZP1->Sq 80 ZP2
 w0:Sq 5 c0
 w222:Sq 302 ZI2->Sq 358 ZI3->Sq 345 c222
 w254:Sq 249 ZJn
 w260:Sq 254 ZJt
 w273:Sq 71 ZJx
 w154:Sq 353 ZIy->Sq 338 c154
 w288:Sq 255 ZJI->Sq 193 ZJJ
 w238:Sq 326 ZI9
 w153:Sq 354 c152->Sq 353 ZIy
 w247:Sq 294 ZJg->Sq 293 ZJh
 w221:Sq 358 ZI3
 w84:Sq 41 c35->Sq 90 c56->Sq 27 c63->Sq 49 c84
 w115:Sq 13 c1->Sq 18 ZIh->Sq 7 ZIi
 w49:Sq 41 c35->Sq 130 c39->Sq 131 c40->Sq 132 c48->Sq 65 c49
 w29:Sq 217 c22->Sq 158 c20->Sq 94 c21->Sq 218 c27->Sq 219 c28->Sq 157 c29
 w30:Sq 157 c29->Sq 91 c30
 w88:Sq 94 c21->Sq 113 c88
 w24:Sq 348 c23->Sq 94 c21->Sq 335 c24
 w34:Sq 94 c21->Sq 84 c34
 w113:Sq 56 c93->Sq 57 c73->Sq 59 c76->Sq 58 ZIg->Sq 24 ZHt
 w1:Sq 13 c1
 w16:Sq 40 c16
 w50:Sq 40 c16->Sq 309 c50
 w10:Sq 152 c8->Sq 153 c9->Sq 82 c10
 w9:Sq 16 c2->Sq 213 c7->Sq 153 c9
 w51:Sq 309 c50->Sq 263 c51
 w95:Sq 346 c95
 w72:Sq 42 c13->Sq 53 c72
 w32:Sq 158 c20->Sq 93 c32
 w54:Sq 40 c16->Sq 156 c54
 w31:Sq 94 c21->Sq 92 c31
 w14:Sq 42 c13->Sq 47 c14
 w18:Sq 82 c10->Sq 83 c12->Sq 47 c14->Sq 46 c17->Sq 39 c18
 w19:Sq 16 c2->Sq 39 c18->Sq 40 c16->Sq 14 c19
 w15:Sq 85 c15
 w55:Sq 40 c16->Sq 138 c55
 w107:Sq 324 ZHs->Sq 325 ZIc->Sq 287 c99->Sq 289 c107
 w59:Sq 47 c14->Sq 137 c59
 w46:Sq 259 c46
 w39:Sq 130 c39
 w42:Sq 199 c42
 w58:Sq 136 c58
 w65:Sq 16 c2->Sq 17 c38->Sq 27 c63->Sq 15 c65
 w37:Sq 42 c13->Sq 16 c2->Sq 44 c37
 w47:Sq 199 c42->Sq 47 c14->Sq 259 c46->Sq 202 c47
 w77:Sq 42 c13->Sq 111 c77
 w73:Sq 43 c36->Sq 108 c71->Sq 53 c72->Sq 47 c14->Sq 109 c70->Sq 57 c73
 w76:Sq 114 c75->Sq 59 c76
 w79:Sq 215 c79
 w94:Sq 110 c94
 w111:Sq 182 c109->Sq 183 ZIe->Sq 112 ZIf
 w112:Sq 111 c77->Sq 110 c94->Sq 112 ZIf->Sq 113 c88->Sq 58 ZIg
set_option maxHeartbeats 100000000 in
theorem ws1:Ws1:=by
 refine ⟨(λQ b c q j f=>Hd Qx (Ze Q (Ze b (Ze c (Ze q (Ze j (Ze f Zn)))))) {draws:=[(2,[],.u 0 4 (.o [5,6] (.alt 4 (.o [7,8] (.a [9,10] .done)) (.a [9,4] (.o [7,8] (.d 10)))))),(4,[],.u 0 5 (.u 6 5 (.a [5,11] (.o [12,13] .done)))),(5,[],.u 0 13 (.alt 13 (.op 14 (.a [15,16] (.o [17,18,19] (.d 20)))) .done)),(6,[],.u 0 8 (.a [8,9] (.o [10,11,12] (.d 13))))]} Tryz.func118 ?_),
 (λq Q=>Hd Zx (Ze q (Ze Q Zn)) {draws:=[(6,[],.u 0 7 (.alt 7 (.u 8 27 .done) .done))]} Tryz.func248 ?_),
 (λq Q b=>Hd Qx (Ze q (Ze Q (Ze b Zn))) {loops:=[(0,[.reg 16 (.dat Iq),.cello 1003 4 (.ol 40 (ZoN))])],draws:=[(1,[],.o [0,1,3,4] (.alt 2 (.alt 5 (.op 6 (.a [7,8] .done)) (.a [7,5] (.op 6 (.d 8)))) (.a [7,2,5] (.op 6 (.d 8))))),(5,[],.o [0,1,2] (.a [3,4,5] (.op 6 (.d 7))))]} Tryz.func116 ?_),
 (λq Q b c=>Hd Zx (Ze q (Ze Q (Ze b (Ze c Zn)))) {loops:=[(0,[.reg 27 (.dat Iq),.ent 2 (nat_lit 2) (.flat (Ty.int IntKind.i64))]),(2,[.reg 10 (.dat Iq),.ent 2 (nat_lit 2) (.flat (Ty.int IntKind.i64))])],draws:=[(7,[],.u 0 16 (.alt 16 (.o [17,18] (.d 19)) .done)),(12,[],.u 0 14 (.d 14))]} Tryz.func142 ?_),
 (λQ q=>Hd Zx (Ze Q (Ze q Zn)) {loops:=[(0,[.reg 8 (.dat Iq)])]} Tryz.func312 ?_),
 (Hd Zx Zn {} Tryz.func339 ?_),
 (λq=>Hd Zx (Ze q Zn) {} Tryz.func351 ?_),
 (λq=>Hd Zx (Ze q Zn) {} Tryz.func341 ?_),
 (λq Q b=>Hd Zx (Ze q (Ze Q (Ze b Zn))) {loops:=[(0,[.reg 3 (.dat Iq),.reg 9 (.dat Iq)])],draws:=[(10,[],.u 0 7 (.alt 7 (.u 8 6 (.alt 14 (.o [15,16] .done) .done)) .done)),(12,[],.u 0 10 (.alt 10 (.u 11 4 (.op 16 (.a [15,17] (.o [18,19,20] .done)))) .done))]} Tryz.func313 ?_),
 (Hd Zx Zn {} Tryz.func281 ?_),
 (Hd Zx Zn {draws:=[(3,[],.u 0 18 .done)]} Tryz.func206 ?_),
 (λQ b q=>Hd Zx (Ze Q (Ze b (Ze q Zn))) {draws:=[(1,[],.u 0 4 (.alt 4 (.op 5 (.alt 6 (.u 7 18 (.alt 25 (.o [26,27,28] .done) .done)) .done)) .done))]} Tryz.func222 ?_),
 (λQ q=>Hd Zx (Ze Q (Ze q Zn)) {} Tryz.func60 ?_),
 (λQ q=>Hd Zx (Ze Q (Ze q Zn)) {} Tryz.func115 ?_),
 (λb f q Q c j=>Hd Zx (Ze b (Ze f (Ze q (Ze Q (Ze c (Ze j Zn)))))) {draws:=[(4,[],.u 0 5 (.o [6,7] (.alt 5 (.u 8 7 (.d 15)) .done))),(11,[],.u 0 6 (.u 7 4 (.alt 6 (.op 11 (.d 12)) .done))),(13,[],.o [0,2,3] (.alt 1 (.o [4,5] (.a [6,7] .done)) (.a [6,1] (.o [4,5] (.d 7))))),(14,[],.o [0,2,4] (.u 6 5 (.alt 1 (.alt 3 (.a [5,11] (.op 12 (.d 13))) (.alt 5 (.alt 3 (.alt 11 (.op 12 (.d 13)) .done) (.a [11,3] (.op 12 (.d 13)))) .done)) (.alt 3 (.alt 1 (.a [5,11] (.op 12 (.d 13))) (.alt 5 (.alt 1 (.alt 11 (.op 12 (.d 13)) .done) (.a [11,1] (.op 12 (.d 13)))) .done)) (.alt 5 (.alt 1 (.alt 3 (.alt 11 (.op 12 (.d 13)) .done) (.a [11,3] (.op 12 (.d 13)))) (.alt 3 (.alt 1 (.alt 11 (.op 12 (.d 13)) .done) (.a [11,1] (.op 12 (.d 13)))) (.alt 11 (.alt 1 (.alt 3 (.op 12 (.d 13)) .done) (.a [3,1] (.op 12 (.d 13)))) .done))) .done))))),(15,[],.u 0 8 (.alt 8 (.op 9 (.d 10)) .done))]} Tryz.func67 ?_),
 (λc f Q q b j=>Hd Zx (Ze c (Ze f (Ze Q (Ze q (Ze b (Ze j Zn)))))) {loops:=[(0,[.reg 23 (.dat Iq),.ent 9 (nat_lit 4) (.flat Ty.bool),.ent 10 (nat_lit 72) (.flat Zaa),.ent 11 (nat_lit 72) (.flat Zaa)])],draws:=[(8,[],.u 0 4 (.o [5,6] (.u 8 17 (.l [4,7] (.alt 25 (.op 26 (.alt 27 (.op 28 (.d 29)) .done)) .done)))))]} Tryz.func124 ?_),
 (Hd Zx Zn {} Tryz.func294 ?_),
 (λQ q=>Hd Zx (Ze Q (Ze q Zn)) {} Tryz.func96 ?_),
 (λQ q=>Hd Zx (Ze Q (Ze q Zn)) {} Tryz.func361 ?_),
 (Hd Zx Zn {} Tryz.func234 ?_),
 (λQ q=>Hd Zx (Ze Q (Ze q Zn)) {draws:=[(1,[],.o [0,1,3,4,6,7] (.a [2,5,8] (.op 9 (.d 10))))]} Tryz.func126 ?_),
 (λq=>Hd Zx (Ze q Zn) {loops:=[(0,[.reg 8 (.dat Iq)])]} Tryz.func226 ?_),
 (λQ q=>Hd Zx (Ze Q (Ze q Zn)) {loops:=[(0,[.reg 7 (.dat Iq)])]} Tryz.func266 ?_),
 (λb q Q=>Hd Zx (Ze b (Ze q (Ze Q Zn))) {loops:=[(0,[.reg 3 (.own (.ol 9 (.flat (.str)))),.reg 8 (.dat Iq)])]} Tryz.func311 ?_),
 (Hd Zx Zn {draws:=[(1,[],.u 0 8 .done)]} Tryz.func279 ?_),
 (λc q f Q b=>Hd Zx (Ze c (Ze q (Ze f (Ze Q (Ze b Zn))))) {loops:=[(0,[.reg 39 (.dat Iq),.cell 1012 0 Iq,.cell 1012 1 Iq,.cell 1012 2 Iq,.cell 1012 3 Iq,.cell 1012 4 Iq,.cell 1013 0 (.bool)])],draws:=[(11,[],.u 0 11 (.alt 11 (.o [12,13,14] (.alt 15 (.a [16,17,18] .done) (.a [16,15,17,18] .done))) (.alt 15 (.alt 11 (.o [12,13,14] (.a [16,17,18] .done)) (.a [16,11] (.o [12,13,14] (.a [17,18] .done)))) (.alt 16 (.alt 11 (.o [12,13,14] (.a [15,17,18] .done)) (.a [15,11] (.o [12,13,14] (.a [17,18] .done)))) .done)))),(12,[],.u 0 6 (.op 7 (.a [6,8] .done))),(16,[],.o [0,1] (.d 2))]} Tryz.func102 ?_),
 (λq=>Hd Zx (Ze q Zn) {loops:=[(0,[.reg 5 (.own (.ol 2 (.flat Iq))),.reg 16 (.dat Iq)])]} Tryz.func169 ?_),
 (λq=>Hd Zx (Ze q Zn) {} Tryz.func172 ?_),
 (λb q Q c=>Hd Zx (Ze b (Ze q (Ze Q (Ze c Zn)))) {loops:=[(0,[.reg 20 (.dat Iq),.ent 0 (nat_lit 3) (.flat Zto.ety)]),(2,[.reg 7 (.own (.ol 2 (.flat Iq))),.reg 43 (.dat Iq),.ent 0 (nat_lit 3) (.flat Zto.ety)]),(4,[.reg 60 (.dat Iq),.ent 0 (nat_lit 3) (.flat Zto.ety)])]} Tryz.func100 ?_),
 (λq=>Hd Zx (Ze q Zn) {} Tryz.func175 ?_),
 (Hd Zx Zn {} Tryz.func235 ?_),
 (Hd Zx Zn {draws:=[(1,[],.u 0 15 .done)]} Tryz.func194 ?_),
 (λq=>Hd Zx (Ze q Zn) {} Tryz.func209 ?_),
 (Hd Zx Zn {} Tryz.func164 ?_),
 (Hd Zx Zn {} Tryz.func243 ?_),
 (Hd Zx Zn {} Tryz.func146 ?_),
 (Hd Zx Zn {} Tryz.func188 ?_),
 (Hd Zx Zn {loops:=[(0,[.reg 3 (.dat Iq),.reg 4 (.dat Iq)])]} Tryz.func321 ?_),
 (λq=>Hd Zx (Ze q Zn) {} Tryz.func280 ?_),
 (λq=>Hd Zx (Ze q Zn) {} Tryz.func173 ?_),
 (λq b Q=>Hd Zx (Ze q (Ze b (Ze Q Zn))) {} Tryz.func98 ?_),
 (λq=>Hd Zx (Ze q Zn) {draws:=[(2,[],.o [0,2,4] (.alt 1 (.alt 3 (.alt 5 (.op 6 (.d 7)) .done) (.a [5,3] (.op 6 (.d 7)))) (.alt 3 (.alt 1 (.alt 5 (.op 6 (.d 7)) .done) (.a [5,1] (.op 6 (.d 7)))) (.alt 5 (.alt 1 (.alt 3 (.op 6 (.d 7)) .done) (.a [3,1] (.op 6 (.d 7)))) .done))))]} Tryz.func101 ?_),
 (λq Q b=>Hd Zx (Ze q (Ze Q (Ze b Zn))) {draws:=[(1,[],.u 0 6 .done),(2,[],.u 0 4 (.u 5 4 (.u 11 4 (.u 16 4 (.alt 4 (.alt 9 (.op 10 (.alt 15 (.alt 20 (.o [21,22] (.a [23,24] .done)) (.a [23,20] (.o [21,22] (.d 24)))) (.a [23,15,20] (.o [21,22] (.d 24))))) (.a [23,9] (.op 10 (.a [15,20] (.o [21,22] (.d 24)))))) (.a [23,4,9] (.op 10 (.a [15,20] (.o [21,22] (.d 24)))))))))),(5,[],.u 0 6 (.alt 6 (.o [7,8,9] .done) .done)),(8,[],.op 0 (.alt 1 (.a [2,3] .done) (.a [2,1,3] .done)))]} Tryz.func176 ?_),
 (λQ q=>Hd Qx (Ze Q (Ze q Zn)) {} Tryz.func261 ?_),
 (λQ b q=>Hd Qx (Ze Q (Ze b (Ze q Zn))) {} Tryz.func10 ?_),
 (λf c Q b q=>Hd Qx (Ze f (Ze c (Ze Q (Ze b (Ze q Zn))))) {} Tryz.func148 ?_),
 (λb Q q=>Hd Zx (Ze b (Ze Q (Ze q Zn))) {} Tryz.func149 ?_),
 (λq Q=>Hd Qx (Ze q (Ze Q Zn)) {loops:=[(0,[.reg 3 (.own (.ol 186 (ZDQ))),.reg 4 (.dat Iq),.cell 0 0 (.sl (.int .u8))])]} Tryz.func211 ?_),
 (λq Q=>Hd Qx (Ze q (Ze Q Zn)) {loops:=[(0,[.reg 3 (.own (.ol 183 (Zsl))),.reg 4 (.dat Iq),.cell 0 0 (.sl (.int .u8))])]} Tryz.func76 ?_),
 (λQ q=>Hd Zx (Ze Q (Ze q Zn)) {loops:=[(0,[.reg 3 (.own (.ol 2 (.flat Iq))),.reg 4 (.dat Iq),.cell 0 0 (.sl (.int .u8))])]} Tryz.func151 ?_),
 (λq Q=>Hd Qx (Ze q (Ze Q Zn)) {loops:=[(0,[.reg 3 (.own (.ol 40 (ZoN))),.reg 4 (.dat Iq),.cell 0 0 (.sl (.int .u8))])]} Tryz.func34 ?_),
 (λQ q b=>Hd Zx (Ze Q (Ze q (Ze b Zn))) {} Tryz.func260 ?_),
 (λq=>Hd Zx (Ze q Zn) {} Tryz.func35 ?_),
 (λq Q=>Hd Zx (Ze q (Ze Q Zn)) {loops:=[(0,[.reg 3 (.own (.ol 5 (.flat (.int .u8)))),.reg 4 (.dat Iq),.cell 0 0 (.sl (.int .u8))])]} Tryz.func37 ?_),
 (λq=>Hd Zx (Ze q Zn) {} Tryz.func80 ?_),
 (Hd Zx Zn {} Tryz.func5 ?_),
 (λQ q=>Hd Zx (Ze Q (Ze q Zn)) {loops:=[(0,[.reg 7 (.dat Iq),.reg 8 (.dat Iq)])]} Tryz.func345 ?_),
 (Hd Zx Zn {} Tryz.func249 ?_),
 (Hd Zx Zn {} Tryz.func254 ?_),
 (Hd Zx Zn {} Tryz.func71 ?_),
 (λq=>Hd Zx (Ze q Zn) {} Tryz.func338 ?_),
 (λq=>Hd Zx (Ze q Zn) {} Tryz.func193 ?_),
 (Hd Zx Zn {loops:=[(0,[.reg 13 (.dat Iq)])],draws:=[(6,[],.u 0 9 .done)]} Tryz.func326 ?_),
 (λq=>Hd Zx (Ze q Zn) {loops:=[(0,[.reg 8 (.dat Iq)])]} Tryz.func353 ?_),
 (λq=>Hd Zx (Ze q Zn) {loops:=[(0,[.reg 8 (.dat Iq)])]} Tryz.func293 ?_),
 (Hd Zx Zn {} Tryz.func358 ?_),
 (λQ b q=>Hd Qx (Ze Q (Ze b (Ze q Zn))) {loops:=[(0,[.reg 8 (.dat Iq),.cello 1004 0 (.ol 183 (Zsl)),.cello 1004 1 (.ol 105 (Zh6)),.cello 1004 2 (.ol 9 (.flat (.str))),.cello 1004 3 (.ol 99 (.flat (Zo7))),.cello 1004 4 (.ol 40 (ZoN)),.cello 1007 0 (.ol (nat_lit 183) (Dp.pair (Dp.flat Ty.str) (Dp.pair (Dp.flat (Ty.int IntKind.i64)) (Dp.pair (Dp.ol (277:Go.TypeId) (Dp.flat Znm)) (Dp.pair (Dp.ol (186:Go.TypeId) ZDQ) (Dp.pair (Dp.ol (2:Go.TypeId) (Dp.flat (Ty.int IntKind.i64))) (Dp.pair (Dp.flat (Ty.int IntKind.i64)) (Dp.pair (Dp.flat (Ty.int IntKind.i64)) (Dp.flat Ty.unit))))))))),.cello 1007 1 (.ol (nat_lit 105) (Dp.pair (Dp.flat Ty.str) (Dp.pair (Dp.flat (Ty.int IntKind.i64)) (Dp.pair (Dp.ol (2:Go.TypeId) (Dp.flat (Ty.int IntKind.i64))) (Dp.flat Ty.unit))))),.cello 1007 2 (.ol (nat_lit 9) (.flat Ty.str)),.cello 1007 3 (.ol (nat_lit 99) (.flat Zo7)),.cello 1007 4 (.ol (nat_lit 40) (Dp.pair (Dp.ol (2:Go.TypeId) (Dp.flat (Ty.int IntKind.i64))) (Dp.pair (Dp.ol (2:Go.TypeId) (Dp.flat (Ty.int IntKind.i64))) (Dp.pair (Dp.ol (2:Go.TypeId) (Dp.flat (Ty.int IntKind.i64))) (Dp.pair (Dp.ol (2:Go.TypeId) (Dp.flat (Ty.int IntKind.i64))) (Dp.flat Ty.unit))))))])],draws:=[(9,[],.u 0 5 (.alt 5 (.o [6,7,8] (.a [9,10] (.op 11 .done))) (.a [9,5] (.o [6,7,8] (.alt 10 (.op 11 .done) .done)))))]} Tryz.func49 ?_),
 (λq Q=>Hd Zx (Ze q (Ze Q Zn)) {} Tryz.func7 ?_),
 (λc q Q b=>Hd Zx (Ze c (Ze q (Ze Q (Ze b Zn)))) {} Tryz.func65 ?_),
 (λQ b f c q=>Hd Zx (Ze Q (Ze b (Ze f (Ze c (Ze q Zn))))) {loops:=[(0,[.reg 5 (.dat Iq)]),(2,[.reg 7 (.dat Iq)]),(5,[.reg 9 (.dat Iq)])],draws:=[(13,[],.u 0 31 .done),(25,[],.u 0 26 .done)]} Tryz.func157 ?_),
 (λq=>Hd Zx (Ze q Zn) {loops:=[(0,[.reg 3 (.dat Iq)]),(2,[.reg 4 (.dat Iq)])],draws:=[(9,[],.u 0 13 .done)]} Tryz.func91 ?_),
 (λq=>Hd Zx (Ze q Zn) {} Tryz.func113 ?_),
 (λq Q=>Hd Zx (Ze q (Ze Q Zn)) {loops:=[(0,[.reg 3 (.dat Iq)])]} Tryz.func335 ?_),
 (λq=>Hd Zx (Ze q Zn) {loops:=[(0,[.reg 6 (.dat Iq)]),(2,[.reg 7 (.dat Iq)])]} Tryz.func84 ?_),
 (λQ q b c=>Hd Zx (Ze Q (Ze q (Ze b (Ze c Zn)))) {draws:=[(5,[],.u 0 5 (.o [6,7] (.alt 5 (.alt 8 (.o [9,10,11] (.a [12,13] (.op 14 .done))) (.a [12,8] (.o [9,10,11] (.alt 13 (.op 14 .done) .done)))) (.a [12,5,8] (.o [9,10,11] (.alt 13 (.op 14 .done) .done))))))]} Tryz.func24 ?_),
 (Hd Zx Zn {loops:=[(0,[.reg 4 (.dat Iq),.cell 1007 2 Iq])],draws:=[(5,[],.u 0 10 (.alt 10 (.u 11 4 (.d 15)) .done))]} Tryz.func13 ?_),
 (Hd Zx Zn {} Tryz.func40 ?_),
 (λq=>Hd Zx (Ze q Zn) {draws:=[(1,[],.o [0,1,3,4,6,7] (.a [2,5,8] (.op 9 (.d 10))))]} Tryz.func309 ?_),
 (λQ q=>Hd Qx (Ze Q (Ze q Zn)) {} Tryz.func82 ?_),
 (λQ q=>Hd Qx (Ze Q (Ze q Zn)) {} Tryz.func153 ?_),
 (λq=>Hd Qx (Ze q Zn) {loops:=[(0,[.reg 3 (.own (.ol 330 (ZkH))),.reg 4 (.dat Iq)])]} Tryz.func263 ?_),
 (Hd Zx Zn {draws:=[(3,[],.u 0 18 .done)]} Tryz.func346 ?_),
 (λq=>Hd Zx (Ze q Zn) {loops:=[(0,[.reg 6 (.dat Iq)])]} Tryz.func53 ?_),
 (λq=>Hd Zx (Ze q Zn) {loops:=[(0,[.reg 3 (.dat Iq)]),(2,[.reg 4 (.dat Iq)])],draws:=[(9,[],.u 0 9 .done)]} Tryz.func93 ?_),
 (λq=>Hd Qx (Ze q Zn) {loops:=[(0,[.reg 4 (.dat Iq),.cello 1003 0 (.ol 105 (Zh6))])],draws:=[(1,[],.o [1,2,5] (.ld 6 (.alt 0 (.alt 3 (.alt 4 (.alt 7 (.op 8 (.a [9,10] .done)) (.a [9,7] (.op 8 (.d 10)))) (.a [9,4,7] (.op 8 (.d 10)))) (.alt 4 (.alt 3 (.alt 7 (.op 8 (.a [9,10] .done)) (.a [9,7] (.op 8 (.d 10)))) (.a [9,3,7] (.op 8 (.d 10)))) (.alt 9 (.alt 3 (.a [4,7] (.op 8 (.d 10))) (.a [4,3,7] (.op 8 (.d 10)))) .done))) (.alt 4 (.alt 0 (.alt 3 (.alt 7 (.op 8 (.a [9,10] .done)) (.a [9,7] (.op 8 (.d 10)))) (.a [9,3,7] (.op 8 (.d 10)))) (.a [9,0,3,7] (.op 8 (.d 10)))) (.alt 9 (.alt 0 (.alt 3 (.a [4,7] (.op 8 (.d 10))) (.a [4,3,7] (.op 8 (.d 10)))) (.a [4,0,3,7] (.op 8 (.d 10)))) .done)))))]} Tryz.func156 ?_),
 (λq=>Hd Zx (Ze q Zn) {loops:=[(0,[.reg 6 (.dat Iq)]),(2,[.reg 8 (.dat Iq)]),(4,[.reg 9 (.dat Iq)])],draws:=[(6,[],.u 0 6 (.alt 6 (.u 7 15 .done) .done))]} Tryz.func92 ?_),
 (λq=>Hd Zx (Ze q Zn) {loops:=[(0,[.reg 5 (.own (.ol 2 (.flat Iq))),.reg 7 (.dat Iq)])]} Tryz.func47 ?_),
 (λb c Q q=>Hd Qx (Ze b (Ze c (Ze Q (Ze q Zn)))) {loops:=[(0,[.reg 9 (.own (.ol 40 (ZoN))),.reg 10 (.dat Iq),.cell 0 0 (.sl (.int .u8)),.cell 0 1 Iq,.cell 0 2 Iq])]} Tryz.func39 ?_),
 (λq Q b=>Hd Qx (Ze q (Ze Q (Ze b Zn))) {draws:=[(7,[],.op 0 (.u 2 7 (.ld 1 (.alt 9 (.a [10,11] (.o [12,13] (.d 14))) (.a [10,9,11] (.o [12,13] (.d 14))))))),(11,[],.o [0,2,7] (.ld 1 (.o [3,4] (.alt 5 (.alt 6 (.alt 8 (.o [9,10,11] (.d 12)) .done) (.a [8,6] (.o [9,10,11] (.d 12)))) (.alt 6 (.alt 5 (.alt 8 (.o [9,10,11] (.d 12)) .done) (.alt 8 (.o [9,10] (.alt 5 (.op 11 (.d 12)) .done)) .done)) (.alt 8 (.alt 5 (.alt 6 (.o [9,10,11] (.d 12)) .done) (.alt 6 (.o [9,10] (.alt 5 (.op 11 (.d 12)) .done)) .done)) .done)))))),(13,[],.o [0,2,6,8,14] (.ld 1 (.o [3,4] (.ld 7 (.o [9,10] (.alt 5 (.alt 11 (.o [12,13] (.alt 15 (.o [16,17] (.d 18)) .done)) (.alt 15 (.op 16 (.alt 11 (.o [12,13,17] (.d 18)) .done)) .done)) (.alt 11 (.o [12,13] (.alt 5 (.alt 15 (.o [16,17] (.d 18)) .done) (.alt 15 (.op 16 (.alt 5 (.op 17 (.d 18)) .done)) .done))) (.alt 15 (.op 16 (.alt 5 (.alt 11 (.o [12,13,17] (.d 18)) .done) (.alt 11 (.o [12,13] (.alt 5 (.op 17 (.d 18)) .done)) .done))) .done))))))))]} Tryz.func14 ?_),
 (Hd Zx Zn {} Tryz.func85 ?_),
 (λq=>Hd Zx (Ze q Zn) {draws:=[(1,[],.o [0,1,3,4,6,7,9,10] (.a [2,5,8,11] (.op 12 (.d 13))))]} Tryz.func138 ?_),
 (λq Q b=>Hd Zx (Ze q (Ze Q (Ze b Zn))) {draws:=[(1,[],.o [0,1] (.u 3 9 (.alt 2 (.o [12,13,14] .done) .done)))]} Tryz.func289 ?_),
 (λq=>Hd Qx (Ze q Zn) {loops:=[(0,[.reg 5 (.dat Iq),.ent 4 (nat_lit 40) (Dp.pair (Dp.ol (2:Go.TypeId) (Dp.flat (Ty.int IntKind.i64))) (Dp.pair (Dp.ol (2:Go.TypeId) (Dp.flat (Ty.int IntKind.i64))) (Dp.pair (Dp.ol (2:Go.TypeId) (Dp.flat (Ty.int IntKind.i64))) (Dp.pair (Dp.ol (2:Go.TypeId) (Dp.flat (Ty.int IntKind.i64))) (Dp.flat Ty.unit)))))]),(2,[.reg 6 (.own (.ol 2 (.flat Iq))),.reg 8 (.dat Iq)])]} Tryz.func137 ?_),
 (Hd Zx Zn {} Tryz.func259 ?_),
 (Hd Zx Zn {} Tryz.func130 ?_),
 (Hd Zx Zn {} Tryz.func199 ?_),
 (Hd Qx Zn {draws:=[(3,[],.u 0 11 (.d 11))]} Tryz.func136 ?_),
 (λQ b q=>Hd Qx (Ze Q (Ze b (Ze q Zn))) {loops:=[(0,[.reg 7 (.own (.ol 42 (ZtU))),.reg 9 (.dat Iq),.cell 0 0 (.sl (.int .u8)),.cell 0 1 Iq,.cell 0 2 Iq,.cell 3 0 (.sl (Zcq)),.cell 3 1 (.sl (Jf)),.cell 3 2 (.sl (.str)),.cell 3 3 (.sl (Zo7)),.cell 3 4 (.sl (ZbR))])]} Tryz.func15 ?_),
 (λq Q=>Hd Zx (Ze q (Ze Q Zn)) {loops:=[(0,[.reg 6 (.dat Iq),.reg 7 (.dat Iq)])]} Tryz.func44 ?_),
 (λq Q b=>Hd Zx (Ze q (Ze Q (Ze b Zn))) {draws:=[(6,[],.u 0 7 (.alt 7 (.u 8 28 .done) .done))]} Tryz.func202 ?_),
 (λq=>Hd Zx (Ze q Zn) {} Tryz.func111 ?_),
 (λb f q Q c=>Hd Zx (Ze b (Ze f (Ze q (Ze Q (Ze c Zn))))) {loops:=[(0,[.reg 3 (.own (.ol 222 (.flat (ZcP)))),.reg 5 (.dat Iq)]),(2,[.reg 3 (.own (.ol 222 (.flat (ZcP)))),.reg 7 (.dat Iq)]),(4,[.reg 3 (.own (.ol 222 (.flat (ZcP)))),.reg 8 (.dat Iq)]),(6,[.reg 3 (.own (.ol 222 (.flat (ZcP)))),.reg 11 (.dat Iq)])],draws:=[(6,[],.u 0 13 .done),(11,[],.u 0 12 (.u 13 7 (.op 21 (.a [12,20,22] (.op 23 .done)))))]} Tryz.func57 ?_),
 (λq=>Hd Zx (Ze q Zn) {loops:=[(0,[.reg 5 (.own (.ol 4 (.flat (.bool)))),.reg 6 (.dat Iq)])]} Tryz.func59 ?_),
 (Hd Zx Zn {loops:=[(0,[.reg 7 (.dat Iq)])]} Tryz.func215 ?_),
 (Hd Zx Zn {draws:=[(1,[],.o [0,2,4] (.alt 1 (.alt 3 (.alt 5 (.op 6 (.d 7)) .done) (.a [5,3] (.op 6 (.d 7)))) (.alt 3 (.alt 1 (.alt 5 (.op 6 (.d 7)) .done) (.a [5,1] (.op 6 (.d 7)))) (.alt 5 (.alt 1 (.alt 3 (.op 6 (.d 7)) .done) (.a [3,1] (.op 6 (.d 7)))) .done))))]} Tryz.func110 ?_),
 (λq Q=>Hd Zx (Ze q (Ze Q Zn)) {loops:=[(0,[.reg 16 (.dat (.bool)),.reg 18 (.dat Iq),.cell 1017 0 Iq,.cell 1017 1 Iq,.cell 1017 2 Iq,.cell 1017 3 Iq,.cell 1017 4 Iq]),(2,[.reg 16 (.dat (.bool)),.reg 19 (.dat Iq),.cell 1017 0 Iq,.cell 1017 1 Iq,.cell 1017 2 Iq,.cell 1017 3 Iq,.cell 1017 4 Iq])],draws:=[(14,[],.u 0 9 (.alt 9 (.o [10,11,12] (.alt 13 (.a [14,15,16] .done) (.a [14,13,15,16] .done))) (.alt 13 (.alt 9 (.o [10,11,12] (.a [14,15,16] .done)) (.a [14,9] (.o [10,11,12] (.a [15,16] .done)))) (.alt 14 (.alt 9 (.o [10,11,12] (.a [13,15,16] .done)) (.a [13,9] (.o [10,11,12] (.a [15,16] .done)))) .done)))),(15,[],.u 0 21 (.a [21,22] .done)),(21,[],.o [0,1,2] (.d 3))]} Tryz.func112 ?_),
 (λq Q b c=>Hd Zx (Ze q (Ze Q (Ze b (Ze c Zn)))) {loops:=[(0,[.reg 15 (.dat Iq),.cello 2 0 (.ol 4 (.flat (.bool))),.cello 2 1 (.ol 72 (.flat (Zaa))),.cello 2 2 (.ol 72 (.flat (Zaa))),.ent 3 (nat_lit 4) (.flat Ty.bool),.ent 4 (nat_lit 72) (.flat Zaa),.ent 5 (nat_lit 72) (.flat Zaa)])]} Tryz.func58 ?_)⟩
 all_goals
  intro a;repeat rcases a with⟨_,a⟩
  rintro K ⟨r,h,k⟩;repeat'
    conv=>whnf
    first
    |with_reducible refine ZjM ?_
    |with_reducible refine Znp (by assumption) (by assumption) (by assumption) ?_
    |with_reducible refine ZO (by assumption) ?_
    |with_reducible refine ZnB (by assumption) ?_
    |(with_reducible refine shD ?_);first|refine Zdu h (λh=>?_) (λh=>?_)|refine ZFY h (λh=>?_) (λh=>?_)
    |(with_reducible refine ZFf ?_);first|refine ZqX ?_|refine ZqQ ?_
    |(with_reducible refine ZKd ?_);first|refine Zu3 h (λh=>?_) (λh=>?_)|refine ZFX h (λh=>?_) (λh=>?_)
    |(with_reducible refine ZFe ?_);(refine⟨λN=>?_,?_⟩)<;>try subst N
    |(with_reducible refine ZKf ?_);first|with_reducible refine Xt h (λx H h=>?_)|refine ZnB (by assumption) ?_|with_reducible refine pG h (λg h=>?_)|with_reducible refine pA h (λx n H i h=>?_)|with_reducible refine pB h (λx H h=>?_)|refine Xt h (λx H h=>?_)
    |(with_reducible refine ZKc ?_);first|with_reducible refine vAt h (λx n H i h=>?_)|refine Znp (by assumption) (by assumption) (by assumption) ?_|with_reducible refine pG h (λg h=>?_)|with_reducible refine pA h (λx n H i h=>?_)|with_reducible refine pB h (λx H h=>?_)|refine vAt h (λx n H i h=>?_)
    |(with_reducible refine ZFd ?_);first|with_reducible refine Zyw h (λx H h=>?_)|refine ZO (by assumption) ?_|with_reducible refine pG h (λg h=>?_)|with_reducible refine pA h (λx n H i h=>?_)|with_reducible refine pB h (λx H h=>?_)|refine Zyw h (λx H h=>?_)
    |with_reducible refine ZKe ?_
    |(with_reducible refine ZBa ?_);refine ZBA h k ?_;clear h k;intro I μ v r h k;(repeat rcases v with⟨_,v⟩);(try dsimp only at h)
    |with_reducible refine⟨by assumption,?_⟩
    |with_reducible refine orL ?_
    |with_reducible refine .inr ?_
    |(with_reducible refine ZFg ?_);first|refine⟨?_,True.intro⟩|refine⟨?_,?_⟩
    |refine⟨by kernel_rfl,?_⟩
    |refine⟨by decide,?_⟩
    |with_reducible refine Zro h (λg h=>?_)
    |intro p
    |exact trivial
    |with_reducible exact ZEy h
    |(refine pS h (λe=>?_));subst e;(repeat (first|exact k|exact⟨⟨rfl,rfl⟩,k.1 _ rfl⟩|(refine pR k (λe k=>?_));subst e));done
    |refine Zro h (λg h=>?_)
    |refine⟨by assumption,?_⟩
    |with_reducible refine pG h (λg h=>?_)|with_reducible refine pA h (λx n H i h=>?_)|with_reducible refine pB h (λx H h=>?_)
    |refine pG h (λg h=>?_)
    |fail
theorem ZN8 (e:Sq 128 ZJA) (f:Sq 61 ZGa) (Q:Sq 117 c171) (q:Sq 129 ZHJ):Sq 64 ZJC:=by
 refine Hd Zx (Ze e (Ze f (Ze Q (Ze q Zn)))) {loops:=[(0,[.reg 6 (.own (.ol 2 (.flat Iq))),.reg 18 (.dat Iq)])]} Tryz.func64 ?_;rintro⟨E,b0,⟨⟩⟩ K ⟨r,h,k⟩
 change ZaJ E b0=some r at h
 unfold ZaJ at h
 conv=>whnf
 refine Xt h (λt _ h=>?_)
 conv=>whnf
 refine Xt h (λ_ _ h=>?_)
 iterate 3 ((conv=>whnf);intro _)
 conv=>whnf
 refine Xt h (λp _ h=>?_)
 conv=>whnf
 refine ZqP h ?_;rintro I6 g ⟨l,v0,⟨⟩⟩ z h H c
 change JG t p l v0=some z at h
 unfold JG at h
 conv=>whnf
 refine Zdu h (λh=>?_) (λh=>?_)
 conv=>whnf
 refine vAt h (λX a b x h=>?_)
 conv=>whnf
 refine⟨by kernel_rfl,?_⟩
 conv=>whnf
 refine⟨a,b,ZO x ?_⟩
 conv=>whnf
 refine Xt h (λ_ _ h=>?_)
 conv=>whnf
 refine Zu3 h (λh=>?_) (λh=>?_)
 conv=>whnf
 refine Zro h (λd h=>?_)
 conv=>whnf
 cases h;exact⟨⟨rfl,rfl⟩,H _ rfl⟩
 conv=>whnf
 cases h;exact⟨⟨rfl,rfl⟩,H _ rfl⟩
 conv=>whnf
 cases h;obtain rfl:=c _ rfl;exact k
theorem ZN3 (Q:Sq 249 ZJn) (E:Sq 190 ZDL) (D:Sq 250 ZJo) (G:Sq 251 ZJp):Sq 186 ZJq:=by
 refine Hd Qx (Ze Q (Ze E (Ze D (Ze G Zn)))) {loops:=[(0,[.reg 11 (.dat Iq),.cello 1003 0 (.ol 183 (Zsl))]),(2,[.reg 30 (.dat Iq),.splt 7 186 ZDQ])],draws:=[(5,[],.o [0,1,3,4] (.alt 2 (.op 6 (.a [5,7] (.op 8 (.d 9)))) .done)),(10,[],.u 0 4 (.o [5,6,7,9,10] (.alt 4 (.a [8,11] (.o [12,13] (.alt 14 (.o [15,16] (.d 17)) .done))) (.alt 8 (.alt 4 (.alt 11 (.o [12,13] (.alt 14 (.o [15,16] (.d 17)) .done)) .done) (.alt 11 (.o [12,13] (.alt 4 (.alt 14 (.o [15,16] (.d 17)) .done) (.a [14,4] (.o [15,16] (.d 17))))) .done)) .done))))]} Tryz.func186 ?_;rintro⟨l0,⟨⟩⟩ K ⟨r,h,y⟩
 change ZaD l0=some r at h
 unfold ZaD at h
 conv=>whnf
 refine ZqP h ?_;rintro I0 N ⟨v0,c0,⟨⟩⟩ z h A n
 change Qz l0 v0 c0=some z at h
 unfold Qz at h
 conv=>whnf
 intro _
 conv=>whnf
 refine Zdu h (λh=>?_) (λh=>?_)
 conv=>whnf
 refine vAt h (λX q s t h=>?_)
 conv=>whnf
 refine⟨by kernel_rfl,?_⟩
 conv=>whnf
 refine Xt h (λPin0 _ h=>?_)
 conv=>whnf
 refine Xt h (λI _ h=>?_)
 conv=>whnf
 refine⟨trivial,?_⟩
 conv=>whnf
 refine Xt h (λArc0 _ h=>?_)
 conv=>whnf
 refine ZqP h ?_;rintro I6 O ⟨v1,L,⟨⟩⟩ Z h m p
 change VF v0 c0 X Pin0 I Arc0 v1 L=some Z at h
 unfold VF at h
 conv=>whnf
 intro _
 conv=>whnf
 refine Zdu h (λh=>?_) (λh=>?_)
 focus
  conv=>whnf
  refine vAt h (λJ H b x h=>?_)
  conv=>whnf
  refine Zro h (λB h=>?_)
  conv=>whnf
  refine⟨H,b,ZO x ?_⟩
  conv=>whnf
  refine⟨by kernel_rfl,?_⟩
  conv=>whnf
  obtain⟨C,k,h⟩:=Uv.1 h;obtain⟨j,i,h⟩:=Uv.1 h;obtain⟨c,h⟩:=guardE h;obtain⟨M,e,f,g,h⟩:=atE h;refine⟨?_,?_⟩;rotate_left
  focus
   conv=>whnf
   refine⟨_,k,?_⟩
   conv=>whnf
   intro l
   conv=>whnf
   refine⟨?_,?_⟩;rotate_left
   focus
    conv=>whnf
    refine⟨_,i,?_⟩
    conv=>whnf
    intro F
    conv=>whnf
    refine⟨H,b,ZO x ?_⟩
    conv=>whnf
    refine⟨?_,?_⟩;rotate_left
    focus
     conv=>whnf
     refine⟨c,?_⟩
     conv=>whnf
     refine⟨e,f,ZO g ?_⟩
     conv=>whnf
     refine⟨H,b,ZO x ?_⟩
     conv=>whnf
     refine⟨c,?_⟩
     conv=>whnf
     refine⟨trivial,?_⟩
    rotate_right
    focus
     conv=>whnf
     refine⟨c,?_⟩
     conv=>whnf
     refine⟨e,f,ZO g ?_⟩
     conv=>whnf
     refine⟨H,b,ZO x ?_⟩
     conv=>whnf
     refine⟨c,?_⟩
     conv=>whnf
     refine⟨trivial,?_⟩
   rotate_right
   focus
    conv=>whnf
    refine⟨_,i,?_⟩
    conv=>whnf
    intro F
    conv=>whnf
    refine⟨H,b,ZO x ?_⟩
    conv=>whnf
    refine⟨c,?_⟩
    conv=>whnf
    refine⟨e,f,ZO g ?_⟩
    conv=>whnf
    refine⟨H,b,ZO x ?_⟩
    conv=>whnf
    refine⟨c,?_⟩
    conv=>whnf
    refine⟨trivial,?_⟩
  rotate_right
  focus
   conv=>whnf
   refine⟨_,k,?_⟩
   conv=>whnf
   intro l
   conv=>whnf
   refine⟨_,i,?_⟩
   conv=>whnf
   intro F
   conv=>whnf
   refine⟨H,b,ZO x ?_⟩
   conv=>whnf
   refine⟨c,?_⟩
   conv=>whnf
   refine⟨e,f,ZO g ?_⟩
   conv=>whnf
   refine⟨H,b,ZO x ?_⟩
   conv=>whnf
   refine⟨c,?_⟩
   conv=>whnf
   refine⟨trivial,?_⟩
  all_goals
   conv=>whnf
   cases h;exact⟨⟨rfl,rfl⟩,m _ rfl⟩
 conv=>whnf
 refine Zro h (λv h=>?_)
 conv=>whnf
 intro _
 conv=>whnf
 refine Zro h (λw h=>?_)
 conv=>whnf
 intro _
 conv=>whnf
 cases h;obtain rfl:=p _ rfl;exact⟨⟨rfl,rfl⟩,A _ rfl⟩
 conv=>whnf
 cases h;obtain rfl:=n _ rfl;exact y
theorem Zoi (R:Int->Option (List UInt8)) (c:Sq 45 (ZdW R)):Sq 45 (ZdW (XO R)):=by
 refine Hd Zx (Ze c Zn) {draws:=[(5,[],.o [0,1,3,4,5] (.alt 2 (.a [6,7,8] (.o [9,10] .done)) (.alt 6 (.alt 2 (.a [7,8] (.o [9,10] .done)) (.alt 7 (.alt 2 (.alt 8 (.o [9,10] .done) .done) (.a [8,2] (.o [9,10] .done))) .done)) .done)))]} Tryz.func45 ?_;rintro⟨n0,⟨⟩⟩ K ⟨r,h,k⟩
 change XO R n0=some r at h
 unfold XO at h
 conv=>whnf
 refine Zdu h (λh=>?_) (λh=>?_)
 conv=>whnf
 refine Xt h (λe b h=>?_)
 conv=>whnf
 refine Zro h (λd h=>?_)
 conv=>whnf
 cases h;exact k
 conv=>whnf
 refine Zdu h (λh=>?_) (λh=>?_)
 conv=>whnf
 cases h;exact k
 focus
  conv=>whnf
  refine⟨by kernel_rfl,?_⟩
  conv=>whnf
  refine⟨by decide,?_⟩
  conv=>whnf
  refine⟨by decide,?_⟩
  conv=>whnf
  obtain⟨e,m,h⟩:=Uv.1 h;obtain⟨H,h⟩:=guardE h;refine⟨?_,?_⟩;rotate_left
  focus
   conv=>whnf
   refine⟨?_,?_⟩;rotate_left
   focus
    conv=>whnf
    refine⟨?_,?_⟩;rotate_left
    focus
     conv=>whnf
     refine⟨_,m,?_⟩
     conv=>whnf
     refine⟨H,?_⟩
     conv=>whnf
     refine⟨trivial,?_⟩
    rotate_right
    focus
     conv=>whnf
     refine⟨_,m,?_⟩
     conv=>whnf
     refine⟨H,?_⟩
     conv=>whnf
     refine⟨trivial,?_⟩
   rotate_right
   focus
    conv=>whnf
    refine⟨_,m,?_⟩
    conv=>whnf
    refine⟨H,?_⟩
    conv=>whnf
    refine⟨trivial,?_⟩
  rotate_right
  focus
   conv=>whnf
   refine⟨_,m,?_⟩
   conv=>whnf
   refine⟨H,?_⟩
   conv=>whnf
   refine⟨trivial,?_⟩
  all_goals
   conv=>whnf
   cases h;exact k
theorem w11:Sq 45 c11:=by
 have f:∀n,Sq 45 (ZdW (V6 n)):=by
  intro n;induction n with
  |zero =>
  refine Hd Zx Zn {draws:=[(5,[],.o [0,1,3,4,5] (.alt 2 (.a [6,7,8] (.o [9,10] .done)) (.alt 6 (.alt 2 (.a [7,8] (.o [9,10] .done)) (.alt 7 (.alt 2 (.alt 8 (.o [9,10] .done) .done) (.a [8,2] (.o [9,10] .done))) .done)) .done)))]} Tryz.func45 ?_;rintro⟨n0,⟨⟩⟩ K ⟨r,h,k⟩;cases h
  |succ n I=>exact Zoi _ I
 refine⟨(f 0).1,?_⟩;rintro w S vs ⟨n0,⟨⟩⟩ p K d H g i ⟨r,h,k⟩;obtain⟨n,F⟩:=ZAU h;exact(f n).2 w S vs _ p K d H g i ⟨r,F,k⟩
theorem w69 (q:Sq 16 c2):Sq 87 c69:=by
 refine Hd Zx (Ze q Zn) {draws:=[(1,[],.o [1,5,9] (.alt 0 (.alt 2 (.op 3 (.alt 4 (.alt 6 (.o [7,8] (.alt 10 (.o [11,12,13] (.a [14,15] .done)) (.a [14,10] (.o [11,12,13] (.d 15))))) (.a [14,6] (.o [7,8] (.alt 10 (.o [11,12,13] (.d 15)) .done)))) (.alt 6 (.o [7,8] (.alt 4 (.alt 10 (.o [11,12,13] (.a [14,15] .done)) (.a [14,10] (.o [11,12,13] (.d 15)))) (.alt 10 (.o [11,12] (.alt 4 (.op 13 (.a [14,15] .done)) (.a [14,4] (.op 13 (.d 15))))) (.alt 14 (.alt 4 (.alt 10 (.o [11,12,13] (.d 15)) .done) (.alt 10 (.o [11,12] (.alt 4 (.op 13 (.d 15)) .done)) .done)) .done)))) (.alt 14 (.alt 4 (.alt 6 (.o [7,8] (.alt 10 (.o [11,12,13] (.d 15)) .done)) .done) (.alt 6 (.o [7,8] (.alt 4 (.alt 10 (.o [11,12,13] (.d 15)) .done) (.alt 10 (.o [11,12] (.alt 4 (.op 13 (.d 15)) .done)) .done))) .done)) .done)))) (.a [14,2] (.op 3 (.alt 4 (.alt 6 (.o [7,8] (.alt 10 (.o [11,12,13] (.d 15)) .done)) .done) (.alt 6 (.o [7,8] (.alt 4 (.alt 10 (.o [11,12,13] (.d 15)) .done) (.alt 10 (.o [11,12] (.alt 4 (.op 13 (.d 15)) .done)) .done))) .done))))) (.alt 2 (.alt 0 (.op 3 (.alt 4 (.alt 6 (.o [7,8] (.alt 10 (.o [11,12,13] (.a [14,15] .done)) (.a [14,10] (.o [11,12,13] (.d 15))))) (.a [14,6] (.o [7,8] (.alt 10 (.o [11,12,13] (.d 15)) .done)))) (.alt 6 (.o [7,8] (.alt 4 (.alt 10 (.o [11,12,13] (.a [14,15] .done)) (.a [14,10] (.o [11,12,13] (.d 15)))) (.alt 10 (.o [11,12] (.alt 4 (.op 13 (.a [14,15] .done)) (.a [14,4] (.op 13 (.d 15))))) (.alt 14 (.alt 4 (.alt 10 (.o [11,12,13] (.d 15)) .done) (.alt 10 (.o [11,12] (.alt 4 (.op 13 (.d 15)) .done)) .done)) .done)))) (.alt 14 (.alt 4 (.alt 6 (.o [7,8] (.alt 10 (.o [11,12,13] (.d 15)) .done)) .done) (.alt 6 (.o [7,8] (.alt 4 (.alt 10 (.o [11,12,13] (.d 15)) .done) (.alt 10 (.o [11,12] (.alt 4 (.op 13 (.d 15)) .done)) .done))) .done)) .done)))) (.alt 6 (.o [7,8] (.alt 0 (.op 3 (.alt 4 (.alt 10 (.o [11,12,13] (.a [14,15] .done)) (.a [14,10] (.o [11,12,13] (.d 15)))) (.alt 10 (.o [11,12] (.alt 4 (.op 13 (.a [14,15] .done)) (.a [14,4] (.op 13 (.d 15))))) (.alt 14 (.alt 4 (.alt 10 (.o [11,12,13] (.d 15)) .done) (.alt 10 (.o [11,12] (.alt 4 (.op 13 (.d 15)) .done)) .done)) .done)))) (.alt 10 (.o [11,12] (.alt 0 (.op 3 (.alt 4 (.op 13 (.a [14,15] .done)) (.a [14,4] (.op 13 (.d 15))))) (.a [14,0] (.op 3 (.alt 4 (.op 13 (.d 15)) .done))))) (.alt 14 (.alt 0 (.op 3 (.alt 4 (.alt 10 (.o [11,12,13] (.d 15)) .done) (.alt 10 (.o [11,12] (.alt 4 (.op 13 (.d 15)) .done)) .done))) (.alt 10 (.o [11,12] (.alt 0 (.op 3 (.alt 4 (.op 13 (.d 15)) .done)) .done)) .done)) .done)))) (.alt 14 (.alt 0 (.op 3 (.alt 4 (.alt 6 (.o [7,8] (.alt 10 (.o [11,12,13] (.d 15)) .done)) .done) (.alt 6 (.o [7,8] (.alt 4 (.alt 10 (.o [11,12,13] (.d 15)) .done) (.alt 10 (.o [11,12] (.alt 4 (.op 13 (.d 15)) .done)) .done))) .done))) (.alt 6 (.o [7,8] (.alt 0 (.op 3 (.alt 4 (.alt 10 (.o [11,12,13] (.d 15)) .done) (.alt 10 (.o [11,12] (.alt 4 (.op 13 (.d 15)) .done)) .done))) (.alt 10 (.o [11,12] (.alt 0 (.op 3 (.alt 4 (.op 13 (.d 15)) .done)) .done)) .done))) .done)) .done))) (.alt 14 (.alt 0 (.alt 2 (.op 3 (.alt 4 (.alt 6 (.o [7,8] (.alt 10 (.o [11,12,13] (.d 15)) .done)) .done) (.alt 6 (.o [7,8] (.alt 4 (.alt 10 (.o [11,12,13] (.d 15)) .done) (.alt 10 (.o [11,12] (.alt 4 (.op 13 (.d 15)) .done)) .done))) .done))) .done) (.alt 2 (.alt 0 (.op 3 (.alt 4 (.alt 6 (.o [7,8] (.alt 10 (.o [11,12,13] (.d 15)) .done)) .done) (.alt 6 (.o [7,8] (.alt 4 (.alt 10 (.o [11,12,13] (.d 15)) .done) (.alt 10 (.o [11,12] (.alt 4 (.op 13 (.d 15)) .done)) .done))) .done))) (.alt 6 (.o [7,8] (.alt 0 (.op 3 (.alt 4 (.alt 10 (.o [11,12,13] (.d 15)) .done) (.alt 10 (.o [11,12] (.alt 4 (.op 13 (.d 15)) .done)) .done))) (.alt 10 (.o [11,12] (.alt 0 (.op 3 (.alt 4 (.op 13 (.d 15)) .done)) .done)) .done))) .done)) .done)) .done)))),(2,[],.o [0,2] (.ld 1 (.alt 3 (.o [4,5,6] (.d 7)) .done))),(3,[],.o [0,2] (.ld 1 (.alt 3 (.o [4,5,6] (.d 7)) .done)))]} Tryz.func87 ?_;rintro⟨s0,⟨⟩⟩ K ⟨r,h,k⟩
 change J4 s0=some r at h
 unfold J4 at h
 focus
  conv=>whnf
  refine⟨by kernel_rfl,?_⟩
  conv=>whnf
  obtain⟨L,c,h⟩:=Uv.1 h;obtain⟨X,H,b,x,h⟩:=atE h;obtain⟨e,m,h⟩:=Uv.1 h;obtain⟨f,i,h⟩:=Uv.1 h;refine⟨?_,?_⟩;rotate_left
  focus
   conv=>whnf
   refine⟨?_,?_⟩;rotate_left
   focus
    conv=>whnf
    refine⟨?_,?_⟩;rotate_left
    focus
     conv=>whnf
     refine⟨_,c,?_⟩
     conv=>whnf
     refine⟨?_,?_⟩;rotate_left
     focus
      conv=>whnf
      refine⟨_,m,?_⟩
      conv=>whnf
      refine⟨?_,?_⟩;rotate_left
      focus
       conv=>whnf
       refine⟨_,i,?_⟩
       conv=>whnf
       refine⟨H,b,ZO x ?_⟩
       conv=>whnf
       refine⟨by kernel_rfl,?_⟩
       conv=>whnf
       refine⟨H,b,ZO x ?_⟩
       conv=>whnf
       refine⟨trivial,?_⟩
      rotate_right
      focus
       conv=>whnf
       refine⟨H,b,ZO x ?_⟩
       conv=>whnf
       refine⟨?_,?_⟩;rotate_left
       focus
        conv=>whnf
        refine⟨_,i,?_⟩
        conv=>whnf
        refine⟨by kernel_rfl,?_⟩
        conv=>whnf
        refine⟨H,b,ZO x ?_⟩
        conv=>whnf
        refine⟨trivial,?_⟩
       rotate_right
       focus
        conv=>whnf
        refine⟨by kernel_rfl,?_⟩
        conv=>whnf
        refine⟨H,b,ZO x ?_⟩
        conv=>whnf
        refine⟨_,i,?_⟩
        conv=>whnf
        refine⟨trivial,?_⟩
     rotate_right
     focus
      conv=>whnf
      refine⟨H,b,ZO x ?_⟩
      conv=>whnf
      refine⟨?_,?_⟩;rotate_left
      focus
       conv=>whnf
       refine⟨_,m,?_⟩
       conv=>whnf
       refine⟨?_,?_⟩;rotate_left
       focus
        conv=>whnf
        refine⟨_,i,?_⟩
        conv=>whnf
        refine⟨by kernel_rfl,?_⟩
        conv=>whnf
        refine⟨H,b,ZO x ?_⟩
        conv=>whnf
        refine⟨trivial,?_⟩
       rotate_right
       focus
        conv=>whnf
        refine⟨by kernel_rfl,?_⟩
        conv=>whnf
        refine⟨H,b,ZO x ?_⟩
        conv=>whnf
        refine⟨_,i,?_⟩
        conv=>whnf
        refine⟨trivial,?_⟩
      rotate_right
      focus
       conv=>whnf
       refine⟨by kernel_rfl,?_⟩
       conv=>whnf
       refine⟨H,b,ZO x ?_⟩
       conv=>whnf
       refine⟨_,m,?_⟩
       conv=>whnf
       refine⟨_,i,?_⟩
       conv=>whnf
       refine⟨trivial,?_⟩
    rotate_right
    focus
     conv=>whnf
     refine⟨_,c,?_⟩
     conv=>whnf
     refine⟨H,b,ZO x ?_⟩
     conv=>whnf
     refine⟨?_,?_⟩;rotate_left
     focus
      conv=>whnf
      refine⟨_,m,?_⟩
      conv=>whnf
      refine⟨?_,?_⟩;rotate_left
      focus
       conv=>whnf
       refine⟨_,i,?_⟩
       conv=>whnf
       refine⟨by kernel_rfl,?_⟩
       conv=>whnf
       refine⟨H,b,ZO x ?_⟩
       conv=>whnf
       refine⟨trivial,?_⟩
      rotate_right
      focus
       conv=>whnf
       refine⟨by kernel_rfl,?_⟩
       conv=>whnf
       refine⟨H,b,ZO x ?_⟩
       conv=>whnf
       refine⟨_,i,?_⟩
       conv=>whnf
       refine⟨trivial,?_⟩
     rotate_right
     focus
      conv=>whnf
      refine⟨by kernel_rfl,?_⟩
      conv=>whnf
      refine⟨H,b,ZO x ?_⟩
      conv=>whnf
      refine⟨_,m,?_⟩
      conv=>whnf
      refine⟨_,i,?_⟩
      conv=>whnf
      refine⟨trivial,?_⟩
   rotate_right
   focus
    conv=>whnf
    refine⟨_,c,?_⟩
    conv=>whnf
    refine⟨?_,?_⟩;rotate_left
    focus
     conv=>whnf
     refine⟨?_,?_⟩;rotate_left
     focus
      conv=>whnf
      refine⟨?_,?_⟩;rotate_left
      focus
       conv=>whnf
       refine⟨_,m,?_⟩
       conv=>whnf
       refine⟨?_,?_⟩;rotate_left
       focus
        conv=>whnf
        refine⟨_,i,?_⟩
        conv=>whnf
        refine⟨H,b,ZO x ?_⟩
        conv=>whnf
        refine⟨by kernel_rfl,?_⟩
        conv=>whnf
        refine⟨H,b,ZO x ?_⟩
        conv=>whnf
        refine⟨trivial,?_⟩
       rotate_right
       focus
        conv=>whnf
        refine⟨H,b,ZO x ?_⟩
        conv=>whnf
        refine⟨?_,?_⟩;rotate_left
        focus
         conv=>whnf
         refine⟨_,i,?_⟩
         conv=>whnf
         refine⟨by kernel_rfl,?_⟩
         conv=>whnf
         refine⟨H,b,ZO x ?_⟩
         conv=>whnf
         refine⟨trivial,?_⟩
        rotate_right
        focus
         conv=>whnf
         refine⟨by kernel_rfl,?_⟩
         conv=>whnf
         refine⟨H,b,ZO x ?_⟩
         conv=>whnf
         refine⟨_,i,?_⟩
         conv=>whnf
         refine⟨trivial,?_⟩
      rotate_right
      focus
       conv=>whnf
       refine⟨H,b,ZO x ?_⟩
       conv=>whnf
       refine⟨?_,?_⟩;rotate_left
       focus
        conv=>whnf
        refine⟨_,m,?_⟩
        conv=>whnf
        refine⟨?_,?_⟩;rotate_left
        focus
         conv=>whnf
         refine⟨_,i,?_⟩
         conv=>whnf
         refine⟨by kernel_rfl,?_⟩
         conv=>whnf
         refine⟨H,b,ZO x ?_⟩
         conv=>whnf
         refine⟨trivial,?_⟩
        rotate_right
        focus
         conv=>whnf
         refine⟨by kernel_rfl,?_⟩
         conv=>whnf
         refine⟨H,b,ZO x ?_⟩
         conv=>whnf
         refine⟨_,i,?_⟩
         conv=>whnf
         refine⟨trivial,?_⟩
       rotate_right
       focus
        conv=>whnf
        refine⟨by kernel_rfl,?_⟩
        conv=>whnf
        refine⟨H,b,ZO x ?_⟩
        conv=>whnf
        refine⟨_,m,?_⟩
        conv=>whnf
        refine⟨_,i,?_⟩
        conv=>whnf
        refine⟨trivial,?_⟩
     rotate_right
     focus
      conv=>whnf
      refine⟨_,m,?_⟩
      conv=>whnf
      refine⟨?_,?_⟩;rotate_left
      focus
       conv=>whnf
       refine⟨?_,?_⟩;rotate_left
       focus
        conv=>whnf
        refine⟨?_,?_⟩;rotate_left
        focus
         conv=>whnf
         refine⟨_,i,?_⟩
         conv=>whnf
         refine⟨H,b,ZO x ?_⟩
         conv=>whnf
         refine⟨by kernel_rfl,?_⟩
         conv=>whnf
         refine⟨H,b,ZO x ?_⟩
         conv=>whnf
         refine⟨trivial,?_⟩
        rotate_right
        focus
         conv=>whnf
         refine⟨H,b,ZO x ?_⟩
         conv=>whnf
         refine⟨?_,?_⟩;rotate_left
         focus
          conv=>whnf
          refine⟨_,i,?_⟩
          conv=>whnf
          refine⟨by kernel_rfl,?_⟩
          conv=>whnf
          refine⟨H,b,ZO x ?_⟩
          conv=>whnf
          refine⟨trivial,?_⟩
         rotate_right
         focus
          conv=>whnf
          refine⟨by kernel_rfl,?_⟩
          conv=>whnf
          refine⟨H,b,ZO x ?_⟩
          conv=>whnf
          refine⟨_,i,?_⟩
          conv=>whnf
          refine⟨trivial,?_⟩
       rotate_right
       focus
        conv=>whnf
        refine⟨_,i,?_⟩
        conv=>whnf
        refine⟨?_,?_⟩;rotate_left
        focus
         conv=>whnf
         refine⟨H,b,ZO x ?_⟩
         conv=>whnf
         refine⟨by kernel_rfl,?_⟩
         conv=>whnf
         refine⟨H,b,ZO x ?_⟩
         conv=>whnf
         refine⟨trivial,?_⟩
        rotate_right
        focus
         conv=>whnf
         refine⟨H,b,ZO x ?_⟩
         conv=>whnf
         refine⟨?_,?_⟩;rotate_left
         focus
          conv=>whnf
          refine⟨by kernel_rfl,?_⟩
          conv=>whnf
          refine⟨H,b,ZO x ?_⟩
          conv=>whnf
          refine⟨trivial,?_⟩
         rotate_right
         focus
          conv=>whnf
          refine⟨by kernel_rfl,?_⟩
          conv=>whnf
          refine⟨H,b,ZO x ?_⟩
          conv=>whnf
          refine⟨trivial,?_⟩
      rotate_right
      focus
       conv=>whnf
       refine⟨H,b,ZO x ?_⟩
       conv=>whnf
       refine⟨?_,?_⟩;rotate_left
       focus
        conv=>whnf
        refine⟨?_,?_⟩;rotate_left
        focus
         conv=>whnf
         refine⟨?_,?_⟩;rotate_left
         focus
          conv=>whnf
          refine⟨_,i,?_⟩
          conv=>whnf
          refine⟨by kernel_rfl,?_⟩
          conv=>whnf
          refine⟨H,b,ZO x ?_⟩
          conv=>whnf
          refine⟨trivial,?_⟩
         rotate_right
         focus
          conv=>whnf
          refine⟨by kernel_rfl,?_⟩
          conv=>whnf
          refine⟨H,b,ZO x ?_⟩
          conv=>whnf
          refine⟨_,i,?_⟩
          conv=>whnf
          refine⟨trivial,?_⟩
        rotate_right
        focus
         conv=>whnf
         refine⟨_,i,?_⟩
         conv=>whnf
         refine⟨?_,?_⟩;rotate_left
         focus
          conv=>whnf
          refine⟨by kernel_rfl,?_⟩
          conv=>whnf
          refine⟨H,b,ZO x ?_⟩
          conv=>whnf
          refine⟨trivial,?_⟩
         rotate_right
         focus
          conv=>whnf
          refine⟨by kernel_rfl,?_⟩
          conv=>whnf
          refine⟨H,b,ZO x ?_⟩
          conv=>whnf
          refine⟨trivial,?_⟩
       rotate_right
       focus
        conv=>whnf
        refine⟨by kernel_rfl,?_⟩
        conv=>whnf
        refine⟨H,b,ZO x ?_⟩
        conv=>whnf
        refine⟨?_,?_⟩;rotate_left
        focus
         conv=>whnf
         refine⟨_,i,?_⟩
         conv=>whnf
         refine⟨trivial,?_⟩
        rotate_right
        focus
         conv=>whnf
         refine⟨_,i,?_⟩
         conv=>whnf
         refine⟨trivial,?_⟩
    rotate_right
    focus
     conv=>whnf
     refine⟨H,b,ZO x ?_⟩
     conv=>whnf
     refine⟨?_,?_⟩;rotate_left
     focus
      conv=>whnf
      refine⟨?_,?_⟩;rotate_left
      focus
       conv=>whnf
       refine⟨?_,?_⟩;rotate_left
       focus
        conv=>whnf
        refine⟨_,m,?_⟩
        conv=>whnf
        refine⟨?_,?_⟩;rotate_left
        focus
         conv=>whnf
         refine⟨_,i,?_⟩
         conv=>whnf
         refine⟨by kernel_rfl,?_⟩
         conv=>whnf
         refine⟨H,b,ZO x ?_⟩
         conv=>whnf
         refine⟨trivial,?_⟩
        rotate_right
        focus
         conv=>whnf
         refine⟨by kernel_rfl,?_⟩
         conv=>whnf
         refine⟨H,b,ZO x ?_⟩
         conv=>whnf
         refine⟨_,i,?_⟩
         conv=>whnf
         refine⟨trivial,?_⟩
       rotate_right
       focus
        conv=>whnf
        refine⟨by kernel_rfl,?_⟩
        conv=>whnf
        refine⟨H,b,ZO x ?_⟩
        conv=>whnf
        refine⟨_,m,?_⟩
        conv=>whnf
        refine⟨_,i,?_⟩
        conv=>whnf
        refine⟨trivial,?_⟩
      rotate_right
      focus
       conv=>whnf
       refine⟨_,m,?_⟩
       conv=>whnf
       refine⟨?_,?_⟩;rotate_left
       focus
        conv=>whnf
        refine⟨?_,?_⟩;rotate_left
        focus
         conv=>whnf
         refine⟨?_,?_⟩;rotate_left
         focus
          conv=>whnf
          refine⟨_,i,?_⟩
          conv=>whnf
          refine⟨by kernel_rfl,?_⟩
          conv=>whnf
          refine⟨H,b,ZO x ?_⟩
          conv=>whnf
          refine⟨trivial,?_⟩
         rotate_right
         focus
          conv=>whnf
          refine⟨by kernel_rfl,?_⟩
          conv=>whnf
          refine⟨H,b,ZO x ?_⟩
          conv=>whnf
          refine⟨_,i,?_⟩
          conv=>whnf
          refine⟨trivial,?_⟩
        rotate_right
        focus
         conv=>whnf
         refine⟨_,i,?_⟩
         conv=>whnf
         refine⟨?_,?_⟩;rotate_left
         focus
          conv=>whnf
          refine⟨by kernel_rfl,?_⟩
          conv=>whnf
          refine⟨H,b,ZO x ?_⟩
          conv=>whnf
          refine⟨trivial,?_⟩
         rotate_right
         focus
          conv=>whnf
          refine⟨by kernel_rfl,?_⟩
          conv=>whnf
          refine⟨H,b,ZO x ?_⟩
          conv=>whnf
          refine⟨trivial,?_⟩
       rotate_right
       focus
        conv=>whnf
        refine⟨by kernel_rfl,?_⟩
        conv=>whnf
        refine⟨H,b,ZO x ?_⟩
        conv=>whnf
        refine⟨?_,?_⟩;rotate_left
        focus
         conv=>whnf
         refine⟨_,i,?_⟩
         conv=>whnf
         refine⟨trivial,?_⟩
        rotate_right
        focus
         conv=>whnf
         refine⟨_,i,?_⟩
         conv=>whnf
         refine⟨trivial,?_⟩
     rotate_right
     focus
      conv=>whnf
      refine⟨by kernel_rfl,?_⟩
      conv=>whnf
      refine⟨H,b,ZO x ?_⟩
      conv=>whnf
      refine⟨?_,?_⟩;rotate_left
      focus
       conv=>whnf
       refine⟨_,m,?_⟩
       conv=>whnf
       refine⟨_,i,?_⟩
       conv=>whnf
       refine⟨trivial,?_⟩
      rotate_right
      focus
       conv=>whnf
       refine⟨_,m,?_⟩
       conv=>whnf
       refine⟨?_,?_⟩;rotate_left
       focus
        conv=>whnf
        refine⟨_,i,?_⟩
        conv=>whnf
        refine⟨trivial,?_⟩
       rotate_right
       focus
        conv=>whnf
        refine⟨_,i,?_⟩
        conv=>whnf
        refine⟨trivial,?_⟩
  rotate_right
  focus
   conv=>whnf
   refine⟨?_,?_⟩;rotate_left
   focus
    conv=>whnf
    refine⟨_,c,?_⟩
    conv=>whnf
    refine⟨H,b,ZO x ?_⟩
    conv=>whnf
    refine⟨?_,?_⟩;rotate_left
    focus
     conv=>whnf
     refine⟨_,m,?_⟩
     conv=>whnf
     refine⟨?_,?_⟩;rotate_left
     focus
      conv=>whnf
      refine⟨_,i,?_⟩
      conv=>whnf
      refine⟨by kernel_rfl,?_⟩
      conv=>whnf
      refine⟨H,b,ZO x ?_⟩
      conv=>whnf
      refine⟨trivial,?_⟩
     rotate_right
     focus
      conv=>whnf
      refine⟨by kernel_rfl,?_⟩
      conv=>whnf
      refine⟨H,b,ZO x ?_⟩
      conv=>whnf
      refine⟨_,i,?_⟩
      conv=>whnf
      refine⟨trivial,?_⟩
    rotate_right
    focus
     conv=>whnf
     refine⟨by kernel_rfl,?_⟩
     conv=>whnf
     refine⟨H,b,ZO x ?_⟩
     conv=>whnf
     refine⟨_,m,?_⟩
     conv=>whnf
     refine⟨_,i,?_⟩
     conv=>whnf
     refine⟨trivial,?_⟩
   rotate_right
   focus
    conv=>whnf
    refine⟨_,c,?_⟩
    conv=>whnf
    refine⟨H,b,ZO x ?_⟩
    conv=>whnf
    refine⟨?_,?_⟩;rotate_left
    focus
     conv=>whnf
     refine⟨?_,?_⟩;rotate_left
     focus
      conv=>whnf
      refine⟨?_,?_⟩;rotate_left
      focus
       conv=>whnf
       refine⟨_,m,?_⟩
       conv=>whnf
       refine⟨?_,?_⟩;rotate_left
       focus
        conv=>whnf
        refine⟨_,i,?_⟩
        conv=>whnf
        refine⟨by kernel_rfl,?_⟩
        conv=>whnf
        refine⟨H,b,ZO x ?_⟩
        conv=>whnf
        refine⟨trivial,?_⟩
       rotate_right
       focus
        conv=>whnf
        refine⟨by kernel_rfl,?_⟩
        conv=>whnf
        refine⟨H,b,ZO x ?_⟩
        conv=>whnf
        refine⟨_,i,?_⟩
        conv=>whnf
        refine⟨trivial,?_⟩
      rotate_right
      focus
       conv=>whnf
       refine⟨by kernel_rfl,?_⟩
       conv=>whnf
       refine⟨H,b,ZO x ?_⟩
       conv=>whnf
       refine⟨_,m,?_⟩
       conv=>whnf
       refine⟨_,i,?_⟩
       conv=>whnf
       refine⟨trivial,?_⟩
     rotate_right
     focus
      conv=>whnf
      refine⟨_,m,?_⟩
      conv=>whnf
      refine⟨?_,?_⟩;rotate_left
      focus
       conv=>whnf
       refine⟨?_,?_⟩;rotate_left
       focus
        conv=>whnf
        refine⟨?_,?_⟩;rotate_left
        focus
         conv=>whnf
         refine⟨_,i,?_⟩
         conv=>whnf
         refine⟨by kernel_rfl,?_⟩
         conv=>whnf
         refine⟨H,b,ZO x ?_⟩
         conv=>whnf
         refine⟨trivial,?_⟩
        rotate_right
        focus
         conv=>whnf
         refine⟨by kernel_rfl,?_⟩
         conv=>whnf
         refine⟨H,b,ZO x ?_⟩
         conv=>whnf
         refine⟨_,i,?_⟩
         conv=>whnf
         refine⟨trivial,?_⟩
       rotate_right
       focus
        conv=>whnf
        refine⟨_,i,?_⟩
        conv=>whnf
        refine⟨?_,?_⟩;rotate_left
        focus
         conv=>whnf
         refine⟨by kernel_rfl,?_⟩
         conv=>whnf
         refine⟨H,b,ZO x ?_⟩
         conv=>whnf
         refine⟨trivial,?_⟩
        rotate_right
        focus
         conv=>whnf
         refine⟨by kernel_rfl,?_⟩
         conv=>whnf
         refine⟨H,b,ZO x ?_⟩
         conv=>whnf
         refine⟨trivial,?_⟩
      rotate_right
      focus
       conv=>whnf
       refine⟨by kernel_rfl,?_⟩
       conv=>whnf
       refine⟨H,b,ZO x ?_⟩
       conv=>whnf
       refine⟨?_,?_⟩;rotate_left
       focus
        conv=>whnf
        refine⟨_,i,?_⟩
        conv=>whnf
        refine⟨trivial,?_⟩
       rotate_right
       focus
        conv=>whnf
        refine⟨_,i,?_⟩
        conv=>whnf
        refine⟨trivial,?_⟩
    rotate_right
    focus
     conv=>whnf
     refine⟨by kernel_rfl,?_⟩
     conv=>whnf
     refine⟨H,b,ZO x ?_⟩
     conv=>whnf
     refine⟨?_,?_⟩;rotate_left
     focus
      conv=>whnf
      refine⟨_,m,?_⟩
      conv=>whnf
      refine⟨_,i,?_⟩
      conv=>whnf
      refine⟨trivial,?_⟩
     rotate_right
     focus
      conv=>whnf
      refine⟨_,m,?_⟩
      conv=>whnf
      refine⟨?_,?_⟩;rotate_left
      focus
       conv=>whnf
       refine⟨_,i,?_⟩
       conv=>whnf
       refine⟨trivial,?_⟩
      rotate_right
      focus
       conv=>whnf
       refine⟨_,i,?_⟩
       conv=>whnf
       refine⟨trivial,?_⟩
  all_goals
   iterate 3 ((conv=>whnf);refine⟨by kernel_rfl,?_⟩)
   conv=>whnf
   refine Xt h (λ_ _ h=>?_)
   conv=>whnf
   refine⟨trivial,?_⟩
   iterate 3 ((conv=>whnf);refine⟨by kernel_rfl,?_⟩)
   conv=>whnf
   refine Xt h (λ_ _ h=>?_)
   conv=>whnf
   refine⟨trivial,?_⟩
   conv=>whnf
   refine Xt h (λ_ _ h=>?_)
   conv=>whnf
   refine Zdu h (λh=>?_) (λh=>?_)
   conv=>whnf
   cases h;exact k
   conv=>whnf
   refine Zdu h (λh=>?_) (λh=>?_)
   conv=>whnf
   refine Xt h (λl _ h=>?_)
   conv=>whnf
   refine vAt h (λp g j n h=>?_)
   conv=>whnf
   refine⟨by kernel_rfl,?_⟩
   conv=>whnf
   refine⟨g,j,ZO n ?_⟩
   conv=>whnf
   cases h;exact k
   conv=>whnf
   refine Zdu h (λh=>?_) (λh=>?_)
   conv=>whnf
   refine Xt h (λl _ h=>?_)
   conv=>whnf
   cases h;exact k
   conv=>whnf
   refine Zdu h (λh=>?_) (λh=>?_)
   conv=>whnf
   cases h;exact k
   conv=>whnf
   cases h;exact k
end Go.Proofs.YtoijdogpgpbddaaGreatDoor
