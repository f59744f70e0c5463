/-
  The functions keep their contracts, if what they call does. Printed by program.
-/
import Derived.Test.YtoijdogpgpbddaaGreatDoorM
import Derived.KernelRfl
namespace Go.Proofs.YtoijdogpgpbddaaGreatDoor
open Go Go.Sx
set_option maxRecDepth 100000
set_option maxHeartbeats 100000000
set_option linter.unusedVariables false
set_option linter.unusedSimpArgs false
structure Ws2:Prop where
 w267:Sq 117 c171->Sq 122 ZGC
 w184:Sq 207 c183->Sq 143 ZIM
 w183:Sq 142 c182->Sq 207 c183
 w266:Sq 121 ZGB
 w148:Sq 339 c148
 w152:Sq 354 c152
 w147:Sq 349 ZIm->Sq 350 c141->Sq 351 ZIt->Sq 352 c146->Sq 340 c145->Sq 208 ZtO->Sq 337 ZIu
 w181:Sq 206 ZIL
 w163:Sq 223 c162->Sq 267 ZIB
 w292:Sq 204 ZJN
 w171:Sq 117 c171
 w241:Sq 208 ZtO->Sq 242 ZI8->Sq 241 ZJb->Sq 117 c171->Sq 229 ZHx->Sq 243 c160->Sq 223 c162->Sq 141 ZEl->Sq 184 ZJc
 w237:Sq 242 ZI8
 w291:Sq 29 ZHI->Sq 62 ZJz->Sq 61 ZGa->Sq 64 ZJC->Sq 63 ZJL->Sq 26 ZJM
 w248:Sq 293 ZJh->Sq 246 ZJi
 w174:Sq 159 ZIF->Sq 117 c171->Sq 160 c173->Sq 95 ZHv
 w157:Sq 161 ZF5->Sq 311 c127->Sq 312 ZIx->Sq 208 ZtO->Sq 313 c156->Sq 265 c157
 w170:Sq 220 ZIA->Sq 221 c159->Sq 222 ZID->Sq 223 c162->Sq 224 ZIE->Sq 159 ZIF
 w158:Sq 265 c157->Sq 266 ZGx->Sq 220 ZIA
 w191:Sq 178 ZIO->Sq 103 ZEn
 w136:Sq 366 ZIo->Sq 166 ZDK->Sq 361 ZIp
 w173:Sq 141 ZEl->Sq 208 ZtO->Sq 226 ZIH->Sq 166 ZDK->Sq 160 c173
 w213:Sq 234 c212->Sq 174 c213
 w275:Sq 60 ZF8->Sq 68 ZF6->Sq 69 c198->Sq 70 ZHG->Sq 71 ZJx->Sq 72 ZHH->Sq 29 ZHI
 w233:Sq 177 c233
 w225:Sq 320 ZI4->Sq 279 ZF7->Sq 278 ZHB
 w277:Sq 60 ZF8->Sq 68 ZF6->Sq 97 c194->Sq 124 ZJy->Sq 62 ZJz
 w285:Sq 191 ZJE->Sq 192 ZJF->Sq 126 ZJG
 w290:Sq 54 ZHz->Sq 125 ZJD->Sq 126 ZJG->Sq 127 ZJK->Sq 63 ZJL
 w193:Sq 103 ZEn->Sq 209 ZIP->Sq 145 c193
 w133:Sq 193 ZIn->Sq 166 ZDK
 w256:Sq 190 ZDL->Sq 251 ZJp
 w244:Sq 291 ZJe->Sq 244 ZJf
 w215:Sq 235 ZIZ->Sq 169 ZI0
 w235:Sq 101 c208->Sq 102 c234->Sq 103 ZEn->Sq 55 ZI7
 w216:Sq 169 ZI0->Sq 175 ZHA
 w289:Sq 163 ZDM->Sq 129 ZHJ->Sq 175 ZHA->Sq 193 ZJJ->Sq 102 c234->Sq 103 ZEn->Sq 127 ZJK
 w286:Sq 194 ZJH
 w128:Sq 349 ZIm
 w192:Sq 208 ZtO->Sq 209 ZIP
 w123:Sq 336 ZHu
 w189:Sq 165 ZIN
 w186:Sq 229 ZHx
 w129:Sq 141 ZEl
 w185:Sq 117 c171->Sq 140 ZIK->Sq 141 ZEl->Sq 142 c182->Sq 143 ZIM->Sq 68 ZF6
 w211:Sq 232 c210->Sq 173 ZIY
 w209:Sq 233 ZIX
 w187:Sq 229 ZHx->Sq 163 ZDM
 w223:Sq 345 c222->Sq 320 ZI4
 w299:Sq 147 ZHK
 w297:Sq 73 ZJS
 w302:Sq 74 ZJU->Sq 75 ZJV->Sq 31 ZJW
 w300:Sq 147 ZHK->Sq 74 ZJU
 w258:Sq 252 ZJr
 w254:Sq 249 ZJn
 w273:Sq 71 ZJx
 w132:Sq 255 c131->Sq 193 ZIn
 w288:Sq 255 ZJI->Sq 193 ZJJ
 w125:Sq 295 c124->Sq 314 ZIl
 w149:Sq 339 c148->Sq 353 ZIv
 w164:Sq 267 ZIB->Sq 255 c164
 w131:Sq 230 c130->Sq 255 c131
 w287:Sq 194 ZJH->Sq 255 ZJI
 w63:Sq 65 c49->Sq 66 c62->Sq 27 c63
 w43:Sq 200 c43
 w35:Sq 51 c33->Sq 47 c14->Sq 84 c34->Sq 41 c35
 w33:Sq 91 c30->Sq 92 c31->Sq 93 c32->Sq 51 c33
 w45:Sq 258 c44->Sq 201 c45
 w119:Sq 52 c117->Sq 22 c119
 w23:Sq 94 c21->Sq 348 c23
 w5:Sq 334 c4->Sq 16 c2->Sq 308 c5
 w100:Sq 323 c98->Sq 287 c99->Sq 284 ZHq
 w10:Sq 152 c8->Sq 153 c9->Sq 82 c10
 w7:Sq 16 c2->Sq 262 c6->Sq 213 c7
 w8:Sq 16 c2->Sq 212 c3->Sq 213 c7->Sq 152 c8
 w28:Sq 219 c28
 w20:Sq 158 c20
 w51:Sq 309 c50->Sq 263 c51
 w3:Sq 212 c3
 w44:Sq 258 c44
 w117:Sq 51 c33->Sq 42 c13->Sq 94 c21->Sq 52 c117
 w95:Sq 346 c95
 w56:Sq 155 c53->Sq 156 c54->Sq 138 c55->Sq 90 c56
 w55:Sq 40 c16->Sq 138 c55
 w103:Sq 324 ZHs->Sq 287 c99->Sq 285 ZIa
 w41:Sq 198 c41
 w42:Sq 199 c42
 w57:Sq 42 c13->Sq 47 c14->Sq 135 c57
 w48:Sq 42 c13->Sq 198 c41->Sq 199 c42->Sq 158 c20->Sq 200 c43->Sq 201 c45->Sq 202 c47->Sq 47 c14->Sq 84 c34->Sq 132 c48
 w68:Sq 16 c2->Sq 14 c19->Sq 39 c18->Sq 86 c68
 w78:Sq 214 c78
 w80:Sq 214 c78->Sq 215 c79->Sq 154 c80
 w105:Sq 283 c97->Sq 284 ZHq->Sq 286 ZHr->Sq 285 ZIa->Sq 288 ZIb->Sq 287 c99->Sq 239 c105
 w101:Sq 42 c13->Sq 286 ZHr
 w93:Sq 41 c35->Sq 104 c85->Sq 105 c87->Sq 106 c90->Sq 107 c92->Sq 56 c93
 w110:Sq 183 ZIe
 w90:Sq 111 c77->Sq 94 c21->Sq 113 c88->Sq 180 c89->Sq 106 c90
set_option maxHeartbeats 100000000 in
theorem ws2:Ws2:=by
 refine ⟨(λq=>Hc Qx (Ze q Zn) {loops:=[(0,[.reg 13 (.dat Iq),.ent 4 (nat_lit 40) (Dp.pair (Dp.ol (2:Go.TypeId) (Dp.flat (Ty.int IntKind.i64))) (Dp.pair (Dp.ol (2:Go.TypeId) (Dp.flat (Ty.int IntKind.i64))) (Dp.pair (Dp.ol (2:Go.TypeId) (Dp.flat (Ty.int IntKind.i64))) (Dp.pair (Dp.ol (2:Go.TypeId) (Dp.flat (Ty.int IntKind.i64))) (Dp.flat Ty.unit)))))]),(2,[.reg 30 (.dat Iq),.ent 4 (nat_lit 40) (Dp.pair (Dp.ol (2:Go.TypeId) (Dp.flat (Ty.int IntKind.i64))) (Dp.pair (Dp.ol (2:Go.TypeId) (Dp.flat (Ty.int IntKind.i64))) (Dp.pair (Dp.ol (2:Go.TypeId) (Dp.flat (Ty.int IntKind.i64))) (Dp.pair (Dp.ol (2:Go.TypeId) (Dp.flat (Ty.int IntKind.i64))) (Dp.flat Ty.unit)))))])],draws:=[(9,[],.u 0 8 .done),(10,[],.u 0 4 (.u 5 6 (.alt 4 (.a [11,12,13] (.o [14,15] (.d 16))) (.alt 11 (.alt 4 (.a [12,13] (.o [14,15] (.d 16))) (.a [12,4,13] (.o [14,15] (.d 16)))) .done))))]} Tryz.func122 ?_),
 (λq=>Hc Zx (Ze q Zn) {loops:=[(0,[.reg 6 (.own (.ol 2 (.flat Iq))),.reg 19 (.dat Iq)])]} Tryz.func143 ?_),
 (λq=>Hc Zx (Ze q Zn) {loops:=[(0,[.reg 8 (.dat Iq),.ent 3 (nat_lit 2) (.flat ZBq.ety)])],draws:=[(1,[],.u 0 7 (.alt 7 (.a [8,9] (.op 10 .done)) (.a [8,7,9] (.op 10 .done)))),(6,[],.u 0 22 (.d 22))]} Tryz.func207 ?_),
 (Hc Qx Zn {draws:=[(2,[],.u 0 10 (.d 10)),(3,[],.u 0 14 (.d 14))]} Tryz.func121 ?_),
 (Hc Zx Zn {} Tryz.func339 ?_),
 (Hc Zx Zn {} Tryz.func354 ?_),
 (λf c b q Q g=>Hc Zx (Ze f (Ze c (Ze b (Ze q (Ze Q (Ze g Zn)))))) {draws:=[(2,[],.u 0 12 (.alt 12 (.u 13 5 (.alt 18 (.u 19 11 (.alt 30 (.u 31 9 .done) .done)) .done)) .done)),(3,[],.o [0,1] (.alt 2 (.u 3 4 (.alt 7 (.u 8 6 (.alt 14 (.u 15 6 (.alt 21 (.o [22,23] .done) .done)) .done)) .done)) .done))]} Tryz.func337 ?_),
 (Hc Zx Zn {draws:=[(3,[],.u 0 18 .done)]} Tryz.func206 ?_),
 (λq=>Hc Zx (Ze q Zn) {} Tryz.func267 ?_),
 (Hc Zx Zn {} Tryz.func204 ?_),
 (Hc Zx Zn {loops:=[(0,[.reg 3 (.own (.ol 195 (.flat (Zk7)))),.reg 13 (.dat Iq)]),(2,[.reg 3 (.own (.ol 195 (.flat (Zk7)))),.reg 21 (.dat Iq)]),(4,[.reg 3 (.own (.ol 195 (.flat (Zk7)))),.reg 44 (.dat Iq)])]} Tryz.func117 ?_),
 (λm g j b q Q c f=>Hc Zx (Ze m (Ze g (Ze j (Ze b (Ze q (Ze Q (Ze c (Ze f Zn)))))))) {draws:=[(1,[],.o [0,1] (.alt 2 (.u 3 4 (.a [7,8] (.o [9,10] .done))) .done)),(3,[],.u 0 4 (.a [4,5] (.op 6 (.alt 7 (.op 8 .done) .done)))),(7,[],.u 0 7 (.alt 7 (.op 8 (.alt 9 (.o [10,11] .done) .done)) .done)),(9,[],.u 0 6 (.alt 6 (.u 7 11 (.alt 18 (.op 19 (.alt 20 (.o [21,22] .done) .done)) .done)) .done))]} Tryz.func184 ?_),
 (Hc Zx Zn {} Tryz.func242 ?_),
 (λq b c f Q=>Hc Zx (Ze q (Ze b (Ze c (Ze f (Ze Q Zn))))) {draws:=[(7,[],.o [0,1] (.u 3 5 (.a [2,8,9] (.o [10,11,12] (.alt 13 (.o [14,15] .done) .done)))))]} Tryz.func26 ?_),
 (λq=>Hc Zx (Ze q Zn) {} Tryz.func246 ?_),
 (λQ q b=>Hc Zx (Ze Q (Ze q (Ze b Zn))) {loops:=[(0,[.reg 32 (.dat Iq),.ent 1 (nat_lit 2) (.flat ZBq.ety)]),(2,[.reg 50 (.dat Iq)])],draws:=[(13,[],.u 0 5 (.alt 5 (.op 6 .done) .done))]} Tryz.func95 ?_),
 (λc b Q f q=>Hc Zx (Ze c (Ze b (Ze Q (Ze f (Ze q Zn))))) {} Tryz.func265 ?_),
 (λf b Q c q=>Hc Zx (Ze f (Ze b (Ze Q (Ze c (Ze q Zn))))) {loops:=[(0,[.reg 25 (.dat Iq),.ent 2 (nat_lit 3) (.flat Zto.ety)]),(2,[.reg 51 (.dat Iq),.ent 2 (nat_lit 3) (.flat Zto.ety)])]} Tryz.func159 ?_),
 (λQ q=>Hc Zx (Ze Q (Ze q Zn)) {loops:=[(0,[.reg 3 (.own (.ol 9 (.flat (.str)))),.reg 9 (.dat Iq)])]} Tryz.func220 ?_),
 (λq=>Hc Zx (Ze q Zn) {} Tryz.func103 ?_),
 (λQ q=>Hc Zx (Ze Q (Ze q Zn)) {} Tryz.func361 ?_),
 (λq c Q b=>Hc Zx (Ze q (Ze c (Ze Q (Ze b Zn)))) {} Tryz.func160 ?_),
 (λq=>Hc Zx (Ze q Zn) {draws:=[(2,[],.o [0,1,2,5] (.alt 3 (.alt 4 (.alt 6 (.o [7,8] (.alt 9 (.o [10,11] (.d 12)) .done)) .done) (.alt 6 (.o [7,8] (.alt 4 (.alt 9 (.o [10,11] (.d 12)) .done) (.a [9,4] (.o [10,11] (.d 12))))) .done)) (.alt 4 (.alt 3 (.alt 6 (.o [7,8] (.alt 9 (.o [10,11] (.d 12)) .done)) .done) (.a [6,3] (.o [7,8] (.alt 9 (.o [10,11] (.d 12)) .done)))) (.alt 6 (.alt 3 (.o [7,8] (.alt 4 (.alt 9 (.o [10,11] (.d 12)) .done) (.a [9,4] (.o [10,11] (.d 12))))) (.a [4,3] (.o [7,8] (.alt 9 (.o [10,11] (.d 12)) .done)))) .done)))),(3,[],.u 0 7 (.u 8 5 (.a [7,13] (.o [14,15] (.alt 16 (.o [17,18] (.d 19)) .done)))))]} Tryz.func174 ?_),
 (λc f b Q q g=>Hc Zx (Ze c (Ze f (Ze b (Ze Q (Ze q (Ze g Zn)))))) {loops:=[(0,[.reg 33 (.dat Iq),.ent 3 (nat_lit 74) (.flat Qo)])]} Tryz.func29 ?_),
 (Hc Zx Zn {} Tryz.func177 ?_),
 (λq Q=>Hc Zx (Ze q (Ze Q Zn)) {loops:=[(0,[.reg 13 (.dat Iq),.reg 34 (.dat Iq)]),(2,[.reg 13 (.dat Iq),.reg 40 (.dat Iq)])],draws:=[(10,[],.u 0 22 .done)]} Tryz.func278 ?_),
 (λb c Q q=>Hc Zx (Ze b (Ze c (Ze Q (Ze q Zn)))) {draws:=[(4,[],.o [0,2] (.a [1,3] (.op 4 .done)))]} Tryz.func62 ?_),
 (λQ q=>Hc Zx (Ze Q (Ze q Zn)) {draws:=[(1,[],.o [0,1,3,4,6,7] (.a [2,5,8] (.op 9 (.d 10))))]} Tryz.func126 ?_),
 (λc q Q b=>Hc Zx (Ze c (Ze q (Ze Q (Ze b Zn)))) {} Tryz.func63 ?_),
 (λq Q=>Hc Zx (Ze q (Ze Q Zn)) {} Tryz.func145 ?_),
 (λq=>Hc Zx (Ze q Zn) {} Tryz.func166 ?_),
 (λq=>Hc Qx (Ze q Zn) {loops:=[(0,[.reg 3 (.own (.ol 330 (ZkH))),.reg 8 (.dat Iq)])],draws:=[(5,[],.o [0,1,2,4,5,7,8] (.a [3,6,9] (.op 10 (.a [11,12] (.op 13 .done)))))]} Tryz.func251 ?_),
 (λq=>Hc Zx (Ze q Zn) {} Tryz.func244 ?_),
 (λq=>Hc Zx (Ze q Zn) {loops:=[(0,[.reg 5 (.own (.ol 2 (.flat Iq))),.reg 16 (.dat Iq)])]} Tryz.func169 ?_),
 (λQ q b=>Hc Zx (Ze Q (Ze q (Ze b Zn))) {loops:=[(0,[.reg 22 (.dat Iq),.cello 1008 0 (.ol 4 (.flat (.bool))),.cello 1008 1 (.ol 72 (.flat (Zaa))),.cello 1008 2 (.ol 72 (.flat (Zaa))),.ent 2 (nat_lit 4) (.flat Ty.bool),.ent 3 (nat_lit 72) (.flat Zaa),.ent 4 (nat_lit 72) (.flat Zaa)])],draws:=[(8,[],.u 0 4 (.o [5,6,8,9,10,12,14] (.l [4,7,11,13] (.alt 15 (.op 16 (.alt 17 (.op 18 (.d 19)) .done)) .done))))]} Tryz.func55 ?_),
 (λq=>Hc Zx (Ze q Zn) {} Tryz.func175 ?_),
 (λc Q f q b g=>Hc Qx (Ze c (Ze Q (Ze f (Ze q (Ze b (Ze g Zn)))))) {loops:=[(0,[.reg 15 (.own (.ol 2 (.flat Iq))),.reg 28 (.dat Iq),.ent 0 (nat_lit 4) (.flat Ty.bool),.ent 1 (nat_lit 72) (.flat Zaa),.ent 2 (nat_lit 72) (.flat Zaa),.ent 6 (nat_lit 4) (.flat ZyF.ety)])],draws:=[(11,[],.u 0 30 (.d 30)),(12,[],.u 0 4 (.o [5,6,8,9,10,12,14] (.l [4,7,11,13] (.alt 15 (.op 16 (.alt 17 (.op 18 (.d 19)) .done)) .done))))]} Tryz.func127 ?_),
 (Hc Zx Zn {draws:=[(1,[],.u 0 15 .done)]} Tryz.func194 ?_),
 (Hc Zx Zn {} Tryz.func349 ?_),
 (λq=>Hc Zx (Ze q Zn) {} Tryz.func209 ?_),
 (Hc Zx Zn {} Tryz.func336 ?_),
 (Hc Zx Zn {} Tryz.func165 ?_),
 (Hc Zx Zn {} Tryz.func229 ?_),
 (Hc Zx Zn {} Tryz.func141 ?_),
 (λc Q f b q=>Hc Qx (Ze c (Ze Q (Ze f (Ze b (Ze q Zn))))) {loops:=[(0,[.reg 4 (.dat Iq),.reg 25 (.dat Iq),.cello 1020 6 (.ol 222 (.flat (ZcP)))]),(2,[.reg 60 (.dat Iq),.ent 4 (nat_lit 2) (.flat ZBq.ety),.ent 5 (nat_lit 38) (Dp.ol (2:Go.TypeId) (Dp.flat (Ty.int IntKind.i64)))]),(4,[.reg 88 (.dat Iq),.cello 1020 7 (.ol 2 (.flat Iq)),.cello 1020 8 (.ol 38 (.ol 2 (.flat Iq))),.cello 1020 6 (.ol (nat_lit 222) (.flat ZcP)),.ent 5 (nat_lit 38) (Dp.ol (2:Go.TypeId) (Dp.flat (Ty.int IntKind.i64)))]),(6,[.reg 122 (.dat Iq),.cello 1020 6 (.ol (nat_lit 222) (.flat ZcP))]),(8,[.reg 127 (.dat Iq),.cello 1020 6 (.ol (nat_lit 222) (.flat ZcP))])],draws:=[(1,[],.o [0,1,2] (.alt 3 (.op 4 (.alt 5 (.op 6 .done) .done)) .done)),(6,[],.u 0 8 (.a [8,9] (.o [10,11] (.d 12)))),(16,[],.o [0,1] (.u 3 6 (.ld 2 (.a [9,10] (.op 11 (.d 12)))))),(21,[],.u 0 7 (.alt 7 (.o [8,9] (.a [10,11] (.o [12,13] (.d 14)))) .done)),(22,[],.u 0 7 (.a [7,8,9] (.o [10,11] (.d 12)))),(29,[],.u 0 18 (.a [18,19] (.o [20,21] (.d 22))))]} Tryz.func68 ?_),
 (λq=>Hc Zx (Ze q Zn) {} Tryz.func173 ?_),
 (Hc Zx Zn {} Tryz.func233 ?_),
 (λq=>Hc Zx (Ze q Zn) {} Tryz.func163 ?_),
 (λq=>Hc Zx (Ze q Zn) {draws:=[(1,[],.u 0 13 .done),(5,[],.u 0 18 (.u 19 10 (.alt 18 (.o [29,30] .done) .done)))]} Tryz.func320 ?_),
 (Hc Zx Zn {loops:=[(0,[.reg 5 (.dat Iq)])],draws:=[(6,[],.u 0 9 .done)]} Tryz.func147 ?_),
 (Hc Zx Zn {loops:=[(0,[.reg 5 (.dat Iq)])],draws:=[(6,[],.u 0 9 .done)]} Tryz.func73 ?_),
 (λq Q=>Hc Zx (Ze q (Ze Q Zn)) {loops:=[(0,[.reg 5 (.dat Iq)])],draws:=[(6,[],.u 0 10 (.alt 10 (.op 11 .done) .done))]} Tryz.func31 ?_),
 (λq=>Hc Zx (Ze q Zn) {loops:=[(0,[.reg 5 (.dat Iq)]),(2,[.reg 6 (.dat Iq)]),(4,[.reg 7 (.dat Iq)])],draws:=[(6,[],.u 0 41 (.alt 41 (.o [42,43] .done) .done)),(11,[],.u 0 11 .done),(16,[],.u 0 11 .done)]} Tryz.func74 ?_),
 (Hc Zx Zn {} Tryz.func252 ?_),
 (Hc Zx Zn {} Tryz.func249 ?_),
 (Hc Zx Zn {} Tryz.func71 ?_),
 (λq=>Hc Zx (Ze q Zn) {} Tryz.func193 ?_),
 (λq=>Hc Zx (Ze q Zn) {} Tryz.func193 ?_),
 (λq=>Hc Zx (Ze q Zn) {} Tryz.func314 ?_),
 (λq=>Hc Zx (Ze q Zn) {loops:=[(0,[.reg 8 (.dat Iq)])]} Tryz.func353 ?_),
 (λq=>Hc Zx (Ze q Zn) {loops:=[(0,[.reg 8 (.dat Iq)])]} Tryz.func255 ?_),
 (λq=>Hc Zx (Ze q Zn) {loops:=[(0,[.reg 8 (.dat Iq)])]} Tryz.func255 ?_),
 (λq=>Hc Zx (Ze q Zn) {loops:=[(0,[.reg 8 (.dat Iq)])]} Tryz.func255 ?_),
 (λq Q=>Hc Qx (Ze q (Ze Q Zn)) {} Tryz.func27 ?_),
 (Hc Zx Zn {loops:=[(0,[.reg 5 (.dat Iq)])]} Tryz.func200 ?_),
 (λq Q b=>Hc Zx (Ze q (Ze Q (Ze b Zn))) {loops:=[(0,[.reg 3 (.dat Iq)])],draws:=[(6,[],.u 0 8 (.alt 8 (.op 9 (.alt 10 (.op 11 .done) .done)) .done))]} Tryz.func41 ?_),
 (λq Q b=>Hc Zx (Ze q (Ze Q (Ze b Zn))) {loops:=[(0,[.reg 5 (.own (.ol 9 (.flat (.str)))),.reg 6 (.dat Iq)]),(2,[.reg 7 (.own (.ol 9 (.flat (.str)))),.reg 8 (.dat Iq)]),(4,[.reg 10 (.dat Iq),.ent 6 (nat_lit 2) (.flat ZBq.ety)]),(6,[.reg 12 (.dat Iq),.ent 6 (nat_lit 2) (.flat ZBq.ety)]),(8,[.reg 13 (.dat Iq)])]} Tryz.func51 ?_),
 (λq=>Hc Zx (Ze q Zn) {} Tryz.func201 ?_),
 (λq=>Hc Zx (Ze q Zn) {} Tryz.func22 ?_),
 (λq=>Hc Zx (Ze q Zn) {loops:=[(0,[.reg 3 (.dat Iq)])],draws:=[(4,[],.u 0 4 (.alt 4 (.u 5 17 .done) .done))]} Tryz.func348 ?_),
 (λq Q=>Hc Zx (Ze q (Ze Q Zn)) {loops:=[(0,[.reg 7 (.own (.ol 2 (.flat Iq))),.reg 9 (.dat Iq),.cell 1000 0 (.sl (.int .u8)),.cell 1000 1 Iq,.cell 1000 2 Iq])],draws:=[(10,[],.u 0 5 (.op 6 (.alt 5 (.alt 7 (.o [8,9,10] .done) .done) (.a [7,5] (.o [8,9,10] .done))))),(12,[],.u 0 6 (.op 7 (.alt 6 (.alt 8 (.o [9,10,11] .done) .done) (.a [8,6] (.o [9,10,11] .done)))))]} Tryz.func308 ?_),
 (λq Q=>Hc Zx (Ze q (Ze Q Zn)) {loops:=[(0,[.reg 16 (.dat Iq),.reg 17 (.dat Iq)]),(2,[.reg 16 (.dat Iq),.reg 18 (.dat Iq)])]} Tryz.func284 ?_),
 (λQ q=>Hc Qx (Ze Q (Ze q Zn)) {} Tryz.func82 ?_),
 (λQ q=>Hc Qx (Ze Q (Ze q Zn)) {} Tryz.func213 ?_),
 (λb Q q=>Hc Qx (Ze b (Ze Q (Ze q Zn))) {loops:=[(0,[.reg 9 (.own (.ol 277 (.flat (Znm)))),.reg 10 (.dat Iq),.cell 1000 0 (.sl (.int .u8)),.cell 1000 1 Iq,.cell 1000 2 Iq]),(2,[.reg 12 (.own (.ol 186 (ZDQ))),.reg 13 (.dat Iq),.cell 1000 0 (.sl (.int .u8)),.cell 1000 1 Iq,.cell 1000 2 Iq])],draws:=[(7,[],.u 0 5 (.op 6 (.alt 5 (.alt 7 (.o [8,9] (.a [10,11] (.op 12 .done))) .done) (.alt 7 (.op 8 (.alt 5 (.op 9 (.a [10,11] (.op 12 .done))) .done)) .done))))]} Tryz.func152 ?_),
 (Hc Zx Zn {loops:=[(0,[.reg 4 (.dat Iq),.ent 1 (nat_lit 2) (.flat ZBq.ety)])]} Tryz.func219 ?_),
 (Hc Zx Zn {loops:=[(0,[.reg 3 (.dat Iq)])]} Tryz.func158 ?_),
 (λq=>Hc Qx (Ze q Zn) {loops:=[(0,[.reg 3 (.own (.ol 330 (ZkH))),.reg 4 (.dat Iq)])]} Tryz.func263 ?_),
 (Hc Zx Zn {loops:=[(0,[.reg 5 (.dat (.bool)),.reg 6 (.dat (.bool)),.reg 8 (.dat Iq)])],draws:=[(7,[],.u 0 17 .done),(8,[],.u 0 17 .done)]} Tryz.func212 ?_),
 (Hc Zx Zn {loops:=[(0,[.reg 5 (.dat Iq)])]} Tryz.func258 ?_),
 (λQ q b=>Hc Zx (Ze Q (Ze q (Ze b Zn))) {} Tryz.func52 ?_),
 (Hc Zx Zn {draws:=[(3,[],.u 0 18 .done)]} Tryz.func346 ?_),
 (λq b Q=>Hc Qx (Ze q (Ze b (Ze Q Zn))) {loops:=[(0,[.reg 4 (.dat Iq),.cello 1003 4 (.ol 40 (ZoN))])],draws:=[(1,[],.o [0,1,3,4] (.alt 2 (.alt 5 (.op 6 (.a [7,8] .done)) (.a [7,5] (.op 6 (.d 8)))) (.a [7,2,5] (.op 6 (.d 8))))),(5,[],.u 0 7 (.a [7,8,9] (.op 10 (.d 11))))]} Tryz.func90 ?_),
 (λq=>Hc Zx (Ze q Zn) {draws:=[(1,[],.o [0,1,3,4,6,7,9,10] (.a [2,5,8,11] (.op 12 (.d 13))))]} Tryz.func138 ?_),
 (λq Q=>Hc Zx (Ze q (Ze Q Zn)) {loops:=[(0,[.reg 8 (.own (.ol 2 (.flat Iq))),.reg 9 (.dat Iq)])]} Tryz.func285 ?_),
 (Hc Zx Zn {loops:=[(0,[.reg 5 (.dat Iq)])],draws:=[(6,[],.u 0 13 .done)]} Tryz.func198 ?_),
 (Hc Zx Zn {} Tryz.func199 ?_),
 (λq Q=>Hc Zx (Ze q (Ze Q Zn)) {loops:=[(0,[.reg 4 (.dat Iq),.ent 2 (nat_lit 2) (.flat ZBq.ety)]),(2,[.reg 6 (.dat Iq),.ent 2 (nat_lit 2) (.flat ZBq.ety)])],draws:=[(9,[],.u 0 15 (.d 15))]} Tryz.func135 ?_),
 (λQ c b j q f m g s=>Hc Zx (Ze Q (Ze c (Ze b (Ze j (Ze q (Ze f (Ze m (Ze g (Ze s Zn))))))))) {draws:=[(5,[],.u 0 28 (.alt 28 (.o [29,30] .done) .done)),(11,[],.u 0 19 .done),(12,[],.u 0 6 (.alt 6 (.op 7 (.alt 8 (.op 9 .done) .done)) .done))]} Tryz.func132 ?_),
 (λQ q b=>Hc Qx (Ze Q (Ze q (Ze b Zn))) {} Tryz.func86 ?_),
 (Hc Zx Zn {loops:=[(0,[.reg 12 (.dat (.bool)),.ent 0 (nat_lit 4) (.flat ZyF.ety)]),(2,[.reg 12 (.dat (.bool)),.reg 13 (.dat Iq),.ent 0 (nat_lit 4) (.flat ZyF.ety)])],draws:=[(9,[],.u 0 12 .done)]} Tryz.func214 ?_),
 (λq Q=>Hc Qx (Ze q (Ze Q Zn)) {loops:=[(0,[.reg 7 (.own (.ol 38 (.ol 2 (.flat Iq)))),.reg 9 (.dat Iq),.ent 1 (nat_lit 4) (.flat ZyF.ety)]),(2,[.reg 12 (.own (.ol 2 (.flat Iq))),.reg 13 (.dat Iq),.ent 1 (nat_lit 4) (.flat ZyF.ety)])]} Tryz.func154 ?_),
 (λc b f q Q g=>Hc Zx (Ze c (Ze b (Ze f (Ze q (Ze Q (Ze g Zn)))))) {draws:=[(5,[],.o [0,1,2,4,6,7] (.a [3,5] (.o [8,9,10] .done)))]} Tryz.func239 ?_),
 (λq=>Hc Zx (Ze q Zn) {draws:=[(1,[],.o [0,1,3,4,5] (.alt 2 (.u 6 4 .done) .done))]} Tryz.func286 ?_),
 (λc b f Q q=>Hc Zx (Ze c (Ze b (Ze f (Ze Q (Ze q Zn))))) {} Tryz.func56 ?_),
 (Hc Zx Zn {} Tryz.func183 ?_),
 (λq c b Q=>Hc Zx (Ze q (Ze c (Ze b (Ze Q Zn)))) {loops:=[(0,[.reg 6 (.dat Iq)])],draws:=[(5,[],.u 0 7 (.alt 7 (.u 8 25 (.alt 33 (.u 34 8 (.alt 42 (.o [43,44] .done) .done)) .done)) .done))]} Tryz.func106 ?_)⟩
 all_goals
  intro a;repeat rcases a with⟨_,a⟩
  rintro K ⟨r,h,k⟩;repeat'
    conv=>whnf
    first
    |with_reducible refine ZjM ?_
    |with_reducible refine Znp (by assumption) (by assumption) (by assumption) ?_
    |with_reducible refine ZO (by assumption) ?_
    |with_reducible refine ZnB (by assumption) ?_
    |(with_reducible refine shD ?_);first|refine Zdu h (λh=>?_) (λh=>?_)|refine ZFY h (λh=>?_) (λh=>?_)
    |(with_reducible refine ZFf ?_);first|refine ZqX ?_|refine ZqQ ?_
    |(with_reducible refine ZKd ?_);first|refine Zu3 h (λh=>?_) (λh=>?_)|refine ZFX h (λh=>?_) (λh=>?_)
    |(with_reducible refine ZFe ?_);(refine⟨λN=>?_,?_⟩)<;>try subst N
    |(with_reducible refine ZKf ?_);first|with_reducible refine Xt h (λx H h=>?_)|refine ZnB (by assumption) ?_|with_reducible refine pG h (λp h=>?_)|with_reducible refine pA h (λx n H i h=>?_)|with_reducible refine pB h (λx H h=>?_)|refine Xt h (λx H h=>?_)
    |(with_reducible refine ZKc ?_);first|with_reducible refine vAt h (λx n H i h=>?_)|refine Znp (by assumption) (by assumption) (by assumption) ?_|with_reducible refine pG h (λp h=>?_)|with_reducible refine pA h (λx n H i h=>?_)|with_reducible refine pB h (λx H h=>?_)|refine vAt h (λx n H i h=>?_)
    |(with_reducible refine ZFd ?_);first|with_reducible refine Zyw h (λx H h=>?_)|refine ZO (by assumption) ?_|with_reducible refine pG h (λp h=>?_)|with_reducible refine pA h (λx n H i h=>?_)|with_reducible refine pB h (λx H h=>?_)|refine Zyw h (λx H h=>?_)
    |with_reducible refine ZKe ?_
    |(with_reducible refine ZBa ?_);refine ZBA h k ?_;clear h k;intro I μ v r h k;(repeat rcases v with⟨_,v⟩);(try dsimp only at h)
    |with_reducible refine⟨by assumption,?_⟩
    |with_reducible refine orL ?_
    |with_reducible refine .inr ?_
    |(with_reducible refine ZFg ?_);first|refine⟨?_,True.intro⟩|refine⟨?_,?_⟩
    |refine⟨by kernel_rfl,?_⟩
    |refine⟨by decide,?_⟩
    |with_reducible refine Zro h (λp h=>?_)
    |intro F
    |exact trivial
    |with_reducible exact ZEy h
    |(refine pS h (λe=>?_));subst e;(repeat (first|exact k|exact⟨⟨rfl,rfl⟩,k.1 _ rfl⟩|(refine pR k (λe k=>?_));subst e));done
    |refine Zro h (λp h=>?_)
    |refine⟨by assumption,?_⟩
    |with_reducible refine pG h (λp h=>?_)|with_reducible refine pA h (λx n H i h=>?_)|with_reducible refine pB h (λx H h=>?_)
    |refine pG h (λp h=>?_)
    |fail
theorem ZN5 (B:Sq 117 c171) (Q:Sq 190 ZDL) (C:Sq 188 ZEm) (E:Sq 195 Zpu) (D:Sq 196 ZlJ):Sq 128 ZJA:=by
 refine Hc Zx (Ze B (Ze Q (Ze C (Ze E (Ze D Zn))))) {draws:=[(5,[],.o [0,1,2,4,5] (.alt 3 (.u 6 6 (.alt 12 (.op 13 .done) .done)) .done)),(7,[],.o [0,2,3,7,8] (.alt 1 (.o [4,5,6] (.a [9,10] (.op 11 .done))) .done)),(11,[],.o [0,2,3,7,8] (.alt 1 (.o [4,5,6] (.alt 9 (.op 10 .done) .done)) .done))]} Tryz.func128 ?_;rintro⟨a0,A,⟨⟩⟩ K ⟨r,h,k⟩
 change ZaB a0 A=some r at h
 unfold ZaB at h
 conv=>whnf
 refine Zdu h (λh=>?_) (λh=>?_)
 conv=>whnf
 refine⟨by kernel_rfl,?_⟩
 conv=>whnf
 refine Xt h (λp _ h=>?_)
 conv=>whnf
 refine vAt h (λX d e f h=>?_)
 conv=>whnf
 refine⟨by kernel_rfl,?_⟩
 conv=>whnf
 refine⟨d,e,ZO f ?_⟩
 conv=>whnf
 refine vAt h (λF w y z h=>?_)
 conv=>whnf
 refine Xt h (λ_ _ h=>?_)
 conv=>whnf
 refine⟨trivial,?_⟩
 conv=>whnf
 refine Xt h (λs _ h=>?_)
 conv=>whnf
 refine Xt h (λc _ h=>?_)
 conv=>whnf
 cases h;exact k
 conv=>whnf
 refine Zdu h (λh=>?_) (λh=>?_)
 conv=>whnf
 refine⟨by kernel_rfl,?_⟩
 conv=>whnf
 refine Xt h (λp _ h=>?_)
 conv=>whnf
 refine vAt h (λX g i j h=>?_)
 conv=>whnf
 refine⟨by kernel_rfl,?_⟩
 conv=>whnf
 refine⟨g,i,ZO j ?_⟩
 conv=>whnf
 refine Xt h (λ_ _ h=>?_)
 conv=>whnf
 refine⟨trivial,?_⟩
 conv=>whnf
 refine Xt h (λs _ h=>?_)
 conv=>whnf
 refine Xt h (λc _ h=>?_)
 conv=>whnf
 cases h;exact k
 conv=>whnf
 refine Zdu h (λh=>?_) (λh=>?_)
 conv=>whnf
 refine vAt h (λX l m n h=>?_)
 conv=>whnf
 refine vAt h (λF q t v h=>?_)
 conv=>whnf
 refine Xt h (λs _ h=>?_)
 conv=>whnf
 refine Xt h (λc _ h=>?_)
 conv=>whnf
 cases h;exact k
 conv=>whnf
 refine Zdu h (λh=>?_) (λh=>?_)
 conv=>whnf
 refine⟨by kernel_rfl,?_⟩
 conv=>whnf
 refine Xt h (λp _ h=>?_)
 conv=>whnf
 refine vAt h (λX H b x h=>?_)
 conv=>whnf
 refine⟨by kernel_rfl,?_⟩
 conv=>whnf
 refine⟨H,b,ZO x ?_⟩
 conv=>whnf
 refine⟨trivial,?_⟩
 conv=>whnf
 refine Xt h (λs _ h=>?_)
 conv=>whnf
 refine Xt h (λc _ h=>?_)
 conv=>whnf
 cases h;exact k
 conv=>whnf
 refine Zdu h (λh=>?_) (λh=>?_)
 conv=>whnf
 refine Xt h (λs _ h=>?_)
 conv=>whnf
 refine Xt h (λc _ h=>?_)
 conv=>whnf
 cases h;exact k
 conv=>whnf
 refine Xt h (λs _ h=>?_)
 conv=>whnf
 refine Xt h (λc _ h=>?_)
 conv=>whnf
 cases h;exact k
theorem w60 (S:Sq 42 c13) (V:Sq 135 c57) (W:Sq 40 c16) (R:Sq 136 c58) (T:Sq 85 c15) (U:Sq 137 c59):Sq 133 c60:=by
 refine Hc Qx (Ze S (Ze V (Ze W (Ze R (Ze T (Ze U Zn)))))) {draws:=[(1,[],.o [0,1,3,4] (.alt 2 (.o [5,6] (.a [7,8] .done)) (.a [7,2] (.o [5,6] (.d 8))))),(5,[],.o [0,1] (.u 4 5 (.alt 2 (.alt 3 (.a [9,10] (.op 11 .done)) (.a [9,3,10] (.op 11 .done))) (.a [9,2,3,10] (.op 11 .done))))),(14,[],.u 0 4 (.o [6,7,9,13,14] (.l [8,10,15] (.alt 4 (.alt 5 (.alt 11 (.alt 12 (.op 16 (.a [17,18] .done)) (.a [17,12] (.op 16 (.d 18)))) (.a [17,11,12] (.op 16 (.d 18)))) (.alt 11 (.alt 5 (.alt 12 (.op 16 (.a [17,18] .done)) (.a [17,12] (.op 16 (.d 18)))) (.a [17,5,12] (.op 16 (.d 18)))) (.alt 17 (.alt 5 (.a [11,12] (.op 16 (.d 18))) (.a [11,5,12] (.op 16 (.d 18)))) .done))) (.alt 11 (.alt 4 (.alt 5 (.alt 12 (.op 16 (.a [17,18] .done)) (.a [17,12] (.op 16 (.d 18)))) (.a [17,5,12] (.op 16 (.d 18)))) (.a [17,4,5,12] (.op 16 (.d 18)))) (.alt 17 (.alt 4 (.alt 5 (.a [11,12] (.op 16 (.d 18))) (.a [11,5,12] (.op 16 (.d 18)))) (.a [11,4,5,12] (.op 16 (.d 18)))) .done)))))),(15,[],.o [0,3,4,9] (.l [1,2] (.a [5,6,7] (.op 8 (.a [10,11] .done)))))]} Tryz.func133 ?_;rintro⟨a0,Q,⟨⟩⟩ K ⟨r,h,J⟩
 change Zdc a0 Q=some r at h
 unfold Zdc at h
 focus
  iterate 4 ((conv=>whnf);first|intro _|refine⟨by kernel_rfl,?_⟩)
  conv=>whnf
  obtain⟨p,D,h⟩:=Uv.1 h;obtain⟨Y,k,m,x,h⟩:=atE h;refine⟨?_,?_⟩;rotate_left
  focus
   conv=>whnf
   refine⟨_,D,?_⟩
   conv=>whnf
   refine⟨k,m,ZO x ?_⟩
   conv=>whnf
   refine⟨by kernel_rfl,?_⟩
   conv=>whnf
   refine⟨k,m,ZO x ?_⟩
   conv=>whnf
   refine⟨trivial,?_⟩
  rotate_right
  focus
   conv=>whnf
   refine⟨_,D,?_⟩
   conv=>whnf
   refine⟨k,m,ZO x ?_⟩
   conv=>whnf
   refine⟨by kernel_rfl,?_⟩
   conv=>whnf
   refine⟨k,m,ZO x ?_⟩
   conv=>whnf
   refine⟨trivial,?_⟩
  all_goals
   focus
    conv=>whnf
    refine Xt h (λ_ _ h=>?_)
    conv=>whnf
    refine⟨by kernel_rfl,?_⟩
    conv=>whnf
    refine vAt h (λZ E G I h=>?_)
    conv=>whnf
    refine⟨by kernel_rfl,?_⟩
    conv=>whnf
    refine⟨E,G,ZO I ?_⟩
    conv=>whnf
    obtain⟨A,h⟩:=guardE h;obtain⟨B,h⟩:=guardE h;obtain⟨C,q,h⟩:=Uv.1 h;obtain⟨n,h⟩:=guardE h;refine⟨?_,?_⟩;rotate_left
    focus
     conv=>whnf
     refine⟨by decide,?_⟩
     conv=>whnf
     refine⟨A,?_⟩
     conv=>whnf
     refine⟨B,?_⟩
     conv=>whnf
     refine⟨_,q,?_⟩
     conv=>whnf
     refine⟨n,?_⟩
     conv=>whnf
     refine⟨trivial,?_⟩
    rotate_right
    focus
     conv=>whnf
     refine⟨by decide,?_⟩
     conv=>whnf
     refine⟨A,?_⟩
     conv=>whnf
     refine⟨B,?_⟩
     conv=>whnf
     refine⟨?_,?_⟩;rotate_left
     focus
      conv=>whnf
      refine⟨_,q,?_⟩
      conv=>whnf
      refine⟨n,?_⟩
      conv=>whnf
      refine⟨trivial,?_⟩
     rotate_right
     focus
      conv=>whnf
      refine⟨_,q,?_⟩
      conv=>whnf
      refine⟨n,?_⟩
      conv=>whnf
      refine⟨trivial,?_⟩
    all_goals
     conv=>whnf
     refine⟨A,?_⟩
     conv=>whnf
     refine⟨B,?_⟩
     conv=>whnf
     refine Zro h (λM h=>?_)
     conv=>whnf
     refine Zro h (λN h=>?_)
     conv=>whnf
     refine Xt h (λ_ _ h=>?_)
     conv=>whnf
     intro _
     conv=>whnf
     refine Zdu h (λh=>?_) (λh=>?_)
     focus
      conv=>whnf
      refine vAt h (λX s t v h=>?_)
      iterate 2 ((conv=>whnf);first|refine⟨by kernel_rfl,?_⟩|refine⟨by decide,?_⟩)
      conv=>whnf
      refine⟨s,t,ZO v ?_⟩
      iterate 4 ((conv=>whnf);refine⟨by kernel_rfl,?_⟩)
      conv=>whnf
      obtain⟨c,h⟩:=guardE h;obtain⟨H,h⟩:=guardE h;refine⟨?_,?_⟩;rotate_left
      focus
       conv=>whnf
       refine⟨?_,?_⟩;rotate_left
       focus
        conv=>whnf
        refine⟨?_,?_⟩;rotate_left
        focus
         conv=>whnf
         intro i
         conv=>whnf
         refine⟨by kernel_rfl,?_⟩
         conv=>whnf
         refine⟨c,?_⟩
         conv=>whnf
         intro f
         conv=>whnf
         refine⟨by kernel_rfl,?_⟩
         conv=>whnf
         refine⟨H,?_⟩
         conv=>whnf
         refine⟨trivial,?_⟩
        rotate_right
        focus
         conv=>whnf
         intro i
         conv=>whnf
         refine⟨?_,?_⟩;rotate_left
         focus
          conv=>whnf
          refine⟨by kernel_rfl,?_⟩
          conv=>whnf
          refine⟨c,?_⟩
          conv=>whnf
          intro f
          conv=>whnf
          refine⟨by kernel_rfl,?_⟩
          conv=>whnf
          refine⟨H,?_⟩
          conv=>whnf
          refine⟨trivial,?_⟩
         rotate_right
         focus
          conv=>whnf
          refine⟨by kernel_rfl,?_⟩
          conv=>whnf
          refine⟨c,?_⟩
          conv=>whnf
          intro f
          conv=>whnf
          refine⟨by kernel_rfl,?_⟩
          conv=>whnf
          refine⟨H,?_⟩
          conv=>whnf
          refine⟨trivial,?_⟩
       rotate_right
       focus
        conv=>whnf
        refine⟨?_,?_⟩;rotate_left
        focus
         conv=>whnf
         intro i
         conv=>whnf
         refine⟨by kernel_rfl,?_⟩
         conv=>whnf
         refine⟨c,?_⟩
         conv=>whnf
         intro f
         conv=>whnf
         refine⟨by kernel_rfl,?_⟩
         conv=>whnf
         refine⟨H,?_⟩
         conv=>whnf
         refine⟨trivial,?_⟩
        rotate_right
        focus
         conv=>whnf
         intro i
         conv=>whnf
         refine⟨?_,?_⟩;rotate_left
         focus
          conv=>whnf
          refine⟨by kernel_rfl,?_⟩
          conv=>whnf
          refine⟨c,?_⟩
          conv=>whnf
          intro f
          conv=>whnf
          refine⟨by kernel_rfl,?_⟩
          conv=>whnf
          refine⟨H,?_⟩
          conv=>whnf
          refine⟨trivial,?_⟩
         rotate_right
         focus
          conv=>whnf
          refine⟨by kernel_rfl,?_⟩
          conv=>whnf
          refine⟨c,?_⟩
          conv=>whnf
          intro f
          conv=>whnf
          refine⟨?_,?_⟩;rotate_left
          focus
           conv=>whnf
           refine⟨by kernel_rfl,?_⟩
           conv=>whnf
           refine⟨H,?_⟩
           conv=>whnf
           refine⟨trivial,?_⟩
          rotate_right
          focus
           conv=>whnf
           refine⟨by kernel_rfl,?_⟩
           conv=>whnf
           refine⟨H,?_⟩
           conv=>whnf
           refine⟨trivial,?_⟩
      rotate_right
      focus
       conv=>whnf
       intro i
       conv=>whnf
       refine⟨?_,?_⟩;rotate_left
       focus
        conv=>whnf
        refine⟨?_,?_⟩;rotate_left
        focus
         conv=>whnf
         refine⟨?_,?_⟩;rotate_left
         focus
          conv=>whnf
          refine⟨by kernel_rfl,?_⟩
          conv=>whnf
          refine⟨c,?_⟩
          conv=>whnf
          intro f
          conv=>whnf
          refine⟨by kernel_rfl,?_⟩
          conv=>whnf
          refine⟨H,?_⟩
          conv=>whnf
          refine⟨trivial,?_⟩
         rotate_right
         focus
          conv=>whnf
          refine⟨by kernel_rfl,?_⟩
          conv=>whnf
          refine⟨c,?_⟩
          conv=>whnf
          intro f
          conv=>whnf
          refine⟨by kernel_rfl,?_⟩
          conv=>whnf
          refine⟨H,?_⟩
          conv=>whnf
          refine⟨trivial,?_⟩
        rotate_right
        focus
         conv=>whnf
         refine⟨?_,?_⟩;rotate_left
         focus
          conv=>whnf
          refine⟨by kernel_rfl,?_⟩
          conv=>whnf
          refine⟨c,?_⟩
          conv=>whnf
          intro f
          conv=>whnf
          refine⟨by kernel_rfl,?_⟩
          conv=>whnf
          refine⟨H,?_⟩
          conv=>whnf
          refine⟨trivial,?_⟩
         rotate_right
         focus
          conv=>whnf
          refine⟨by kernel_rfl,?_⟩
          conv=>whnf
          refine⟨c,?_⟩
          conv=>whnf
          intro f
          conv=>whnf
          refine⟨?_,?_⟩;rotate_left
          focus
           conv=>whnf
           refine⟨by kernel_rfl,?_⟩
           conv=>whnf
           refine⟨H,?_⟩
           conv=>whnf
           refine⟨trivial,?_⟩
          rotate_right
          focus
           conv=>whnf
           refine⟨by kernel_rfl,?_⟩
           conv=>whnf
           refine⟨H,?_⟩
           conv=>whnf
           refine⟨trivial,?_⟩
       rotate_right
       focus
        conv=>whnf
        refine⟨by kernel_rfl,?_⟩
        conv=>whnf
        refine⟨c,?_⟩
        conv=>whnf
        intro f
        conv=>whnf
        refine⟨?_,?_⟩;rotate_left
        focus
         conv=>whnf
         refine⟨by kernel_rfl,?_⟩
         conv=>whnf
         refine⟨H,?_⟩
         conv=>whnf
         refine⟨trivial,?_⟩
        rotate_right
        focus
         conv=>whnf
         refine⟨?_,?_⟩;rotate_left
         focus
          conv=>whnf
          refine⟨by kernel_rfl,?_⟩
          conv=>whnf
          refine⟨H,?_⟩
          conv=>whnf
          refine⟨trivial,?_⟩
         rotate_right
         focus
          conv=>whnf
          refine⟨by kernel_rfl,?_⟩
          conv=>whnf
          refine⟨H,?_⟩
          conv=>whnf
          refine⟨trivial,?_⟩
      all_goals
       iterate 3 ((conv=>whnf);refine⟨by kernel_rfl,?_⟩)
       conv=>whnf
       refine Xt h (λL _ h=>?_)
       iterate 2 ((conv=>whnf);first|intro _|refine⟨by kernel_rfl,?_⟩)
       conv=>whnf
       refine Zro h (λO h=>?_)
       conv=>whnf
       intro _
       conv=>whnf
       refine Xt h (λg _ h=>?_)
       iterate 3 ((conv=>whnf);intro _)
       conv=>whnf
       refine⟨trivial,?_⟩
       conv=>whnf
       cases h;exact J
     focus
      conv=>whnf
      refine vAt h (λX w y z h=>?_)
      iterate 2 ((conv=>whnf);first|refine⟨by kernel_rfl,?_⟩|refine⟨by decide,?_⟩)
      conv=>whnf
      refine⟨w,y,ZO z ?_⟩
      iterate 4 ((conv=>whnf);refine⟨by kernel_rfl,?_⟩)
      conv=>whnf
      obtain⟨e,h⟩:=guardE h;obtain⟨b,h⟩:=guardE h;refine⟨?_,?_⟩;rotate_left
      focus
       conv=>whnf
       refine⟨?_,?_⟩;rotate_left
       focus
        conv=>whnf
        refine⟨?_,?_⟩;rotate_left
        focus
         conv=>whnf
         intro j
         conv=>whnf
         refine⟨by kernel_rfl,?_⟩
         conv=>whnf
         refine⟨e,?_⟩
         conv=>whnf
         intro F
         conv=>whnf
         refine⟨by kernel_rfl,?_⟩
         conv=>whnf
         refine⟨b,?_⟩
         conv=>whnf
         refine⟨trivial,?_⟩
        rotate_right
        focus
         conv=>whnf
         intro j
         conv=>whnf
         refine⟨?_,?_⟩;rotate_left
         focus
          conv=>whnf
          refine⟨by kernel_rfl,?_⟩
          conv=>whnf
          refine⟨e,?_⟩
          conv=>whnf
          intro F
          conv=>whnf
          refine⟨by kernel_rfl,?_⟩
          conv=>whnf
          refine⟨b,?_⟩
          conv=>whnf
          refine⟨trivial,?_⟩
         rotate_right
         focus
          conv=>whnf
          refine⟨by kernel_rfl,?_⟩
          conv=>whnf
          refine⟨e,?_⟩
          conv=>whnf
          intro F
          conv=>whnf
          refine⟨by kernel_rfl,?_⟩
          conv=>whnf
          refine⟨b,?_⟩
          conv=>whnf
          refine⟨trivial,?_⟩
       rotate_right
       focus
        conv=>whnf
        refine⟨?_,?_⟩;rotate_left
        focus
         conv=>whnf
         intro j
         conv=>whnf
         refine⟨by kernel_rfl,?_⟩
         conv=>whnf
         refine⟨e,?_⟩
         conv=>whnf
         intro F
         conv=>whnf
         refine⟨by kernel_rfl,?_⟩
         conv=>whnf
         refine⟨b,?_⟩
         conv=>whnf
         refine⟨trivial,?_⟩
        rotate_right
        focus
         conv=>whnf
         intro j
         conv=>whnf
         refine⟨?_,?_⟩;rotate_left
         focus
          conv=>whnf
          refine⟨by kernel_rfl,?_⟩
          conv=>whnf
          refine⟨e,?_⟩
          conv=>whnf
          intro F
          conv=>whnf
          refine⟨by kernel_rfl,?_⟩
          conv=>whnf
          refine⟨b,?_⟩
          conv=>whnf
          refine⟨trivial,?_⟩
         rotate_right
         focus
          conv=>whnf
          refine⟨by kernel_rfl,?_⟩
          conv=>whnf
          refine⟨e,?_⟩
          conv=>whnf
          intro F
          conv=>whnf
          refine⟨?_,?_⟩;rotate_left
          focus
           conv=>whnf
           refine⟨by kernel_rfl,?_⟩
           conv=>whnf
           refine⟨b,?_⟩
           conv=>whnf
           refine⟨trivial,?_⟩
          rotate_right
          focus
           conv=>whnf
           refine⟨by kernel_rfl,?_⟩
           conv=>whnf
           refine⟨b,?_⟩
           conv=>whnf
           refine⟨trivial,?_⟩
      rotate_right
      focus
       conv=>whnf
       intro j
       conv=>whnf
       refine⟨?_,?_⟩;rotate_left
       focus
        conv=>whnf
        refine⟨?_,?_⟩;rotate_left
        focus
         conv=>whnf
         refine⟨?_,?_⟩;rotate_left
         focus
          conv=>whnf
          refine⟨by kernel_rfl,?_⟩
          conv=>whnf
          refine⟨e,?_⟩
          conv=>whnf
          intro F
          conv=>whnf
          refine⟨by kernel_rfl,?_⟩
          conv=>whnf
          refine⟨b,?_⟩
          conv=>whnf
          refine⟨trivial,?_⟩
         rotate_right
         focus
          conv=>whnf
          refine⟨by kernel_rfl,?_⟩
          conv=>whnf
          refine⟨e,?_⟩
          conv=>whnf
          intro F
          conv=>whnf
          refine⟨by kernel_rfl,?_⟩
          conv=>whnf
          refine⟨b,?_⟩
          conv=>whnf
          refine⟨trivial,?_⟩
        rotate_right
        focus
         conv=>whnf
         refine⟨?_,?_⟩;rotate_left
         focus
          conv=>whnf
          refine⟨by kernel_rfl,?_⟩
          conv=>whnf
          refine⟨e,?_⟩
          conv=>whnf
          intro F
          conv=>whnf
          refine⟨by kernel_rfl,?_⟩
          conv=>whnf
          refine⟨b,?_⟩
          conv=>whnf
          refine⟨trivial,?_⟩
         rotate_right
         focus
          conv=>whnf
          refine⟨by kernel_rfl,?_⟩
          conv=>whnf
          refine⟨e,?_⟩
          conv=>whnf
          intro F
          conv=>whnf
          refine⟨?_,?_⟩;rotate_left
          focus
           conv=>whnf
           refine⟨by kernel_rfl,?_⟩
           conv=>whnf
           refine⟨b,?_⟩
           conv=>whnf
           refine⟨trivial,?_⟩
          rotate_right
          focus
           conv=>whnf
           refine⟨by kernel_rfl,?_⟩
           conv=>whnf
           refine⟨b,?_⟩
           conv=>whnf
           refine⟨trivial,?_⟩
       rotate_right
       focus
        conv=>whnf
        refine⟨by kernel_rfl,?_⟩
        conv=>whnf
        refine⟨e,?_⟩
        conv=>whnf
        intro F
        conv=>whnf
        refine⟨?_,?_⟩;rotate_left
        focus
         conv=>whnf
         refine⟨by kernel_rfl,?_⟩
         conv=>whnf
         refine⟨b,?_⟩
         conv=>whnf
         refine⟨trivial,?_⟩
        rotate_right
        focus
         conv=>whnf
         refine⟨?_,?_⟩;rotate_left
         focus
          conv=>whnf
          refine⟨by kernel_rfl,?_⟩
          conv=>whnf
          refine⟨b,?_⟩
          conv=>whnf
          refine⟨trivial,?_⟩
         rotate_right
         focus
          conv=>whnf
          refine⟨by kernel_rfl,?_⟩
          conv=>whnf
          refine⟨b,?_⟩
          conv=>whnf
          refine⟨trivial,?_⟩
      all_goals
       iterate 3 ((conv=>whnf);refine⟨by kernel_rfl,?_⟩)
       conv=>whnf
       refine Xt h (λL _ h=>?_)
       iterate 2 ((conv=>whnf);first|intro _|refine⟨by kernel_rfl,?_⟩)
       conv=>whnf
       refine Zro h (λP h=>?_)
       conv=>whnf
       intro _
       conv=>whnf
       refine Xt h (λg _ h=>?_)
       iterate 3 ((conv=>whnf);intro _)
       conv=>whnf
       refine⟨trivial,?_⟩
       conv=>whnf
       cases h;exact J
theorem w83 (p:Sq 86 c68) (Q:Sq 87 c69) (t:Sq 16 c2) (u:Sq 39 c18) (n:Sq 88 c74) (v:Sq 41 c35) (s:Sq 89 c81) (q:Sq 50 c82):Sq 48 c83:=by
 refine Hc Zx (Ze p (Ze Q (Ze t (Ze u (Ze n (Ze v (Ze s (Ze q Zn)))))))) {draws:=[(8,[],.o [2,3,4] (.ld 0 (.alt 1 (.a [5,6,7] (.o [8,9] .done)) (.alt 5 (.alt 1 (.a [6,7] (.o [8,9] .done)) (.a [6,1,7] (.o [8,9] .done))) .done))))]} Tryz.func48 ?_;rintro⟨s0,⟨⟩⟩ K ⟨r,h,k⟩
 change Zbd s0=some r at h
 unfold Zbd at h
 conv=>whnf
 refine Xt h (λ_ _ h=>?_)
 iterate 3 ((conv=>whnf);intro _)
 conv=>whnf
 refine Xt h (λ_ _ h=>?_)
 conv=>whnf
 refine Xt h (λ_ _ h=>?_)
 conv=>whnf
 refine Zdu h (λh=>?_) (λh=>?_)
 conv=>whnf
 refine Xt h (λ_ _ h=>?_)
 iterate 3 ((conv=>whnf);intro _)
 conv=>whnf
 refine Xt h (λL _ h=>?_)
 conv=>whnf
 refine Xt h (λIsBlock0 _ h=>?_)
 conv=>whnf
 refine Zu3 h (λh=>?_) (λh=>?_)
 conv=>whnf
 refine Zdu h (λh=>?_) (λh=>?_)
 conv=>whnf
 refine Xt h (λc _ h=>?_)
 conv=>whnf
 refine Zdu h (λh=>?_) (λh=>?_)
 focus
  conv=>whnf
  refine Xt h (λb _ h=>?_)
  iterate 2 ((conv=>whnf);refine⟨by kernel_rfl,?_⟩)
  conv=>whnf
  obtain⟨l,H,h⟩:=Uv.1 h;refine⟨?_,?_⟩;rotate_left
  focus
   conv=>whnf
   refine⟨by kernel_rfl,?_⟩
   conv=>whnf
   refine⟨_,H,?_⟩
   conv=>whnf
   refine⟨?_,?_⟩;rotate_left
   focus
    conv=>whnf
    refine⟨trivial,?_⟩
   rotate_right
   focus
    conv=>whnf
    refine⟨trivial,?_⟩
  rotate_right
  focus
   conv=>whnf
   refine⟨by kernel_rfl,?_⟩
   conv=>whnf
   refine⟨_,H,?_⟩
   conv=>whnf
   refine⟨trivial,?_⟩
  all_goals
   conv=>whnf
   cases h;exact k
 focus
  iterate 2 ((conv=>whnf);refine⟨by kernel_rfl,?_⟩)
  conv=>whnf
  obtain⟨l,d,h⟩:=Uv.1 h;refine⟨?_,?_⟩;rotate_left
  focus
   conv=>whnf
   refine⟨by kernel_rfl,?_⟩
   conv=>whnf
   refine⟨_,d,?_⟩
   conv=>whnf
   refine⟨?_,?_⟩;rotate_left
   focus
    conv=>whnf
    refine⟨trivial,?_⟩
   rotate_right
   focus
    conv=>whnf
    refine⟨trivial,?_⟩
  rotate_right
  focus
   conv=>whnf
   refine⟨by kernel_rfl,?_⟩
   conv=>whnf
   refine⟨_,d,?_⟩
   conv=>whnf
   refine⟨trivial,?_⟩
  all_goals
   conv=>whnf
   cases h;exact k
 focus
  iterate 2 ((conv=>whnf);refine⟨by kernel_rfl,?_⟩)
  conv=>whnf
  obtain⟨l,e,h⟩:=Uv.1 h;refine⟨?_,?_⟩;rotate_left
  focus
   conv=>whnf
   refine⟨by kernel_rfl,?_⟩
   conv=>whnf
   refine⟨_,e,?_⟩
   conv=>whnf
   refine⟨?_,?_⟩;rotate_left
   focus
    conv=>whnf
    refine⟨trivial,?_⟩
   rotate_right
   focus
    conv=>whnf
    refine⟨trivial,?_⟩
  rotate_right
  focus
   conv=>whnf
   refine⟨by kernel_rfl,?_⟩
   conv=>whnf
   refine⟨_,e,?_⟩
   conv=>whnf
   refine⟨trivial,?_⟩
  all_goals
   conv=>whnf
   cases h;exact k
 focus
  iterate 2 ((conv=>whnf);refine⟨by kernel_rfl,?_⟩)
  conv=>whnf
  obtain⟨l,f,h⟩:=Uv.1 h;refine⟨?_,?_⟩;rotate_left
  focus
   conv=>whnf
   refine⟨by kernel_rfl,?_⟩
   conv=>whnf
   refine⟨_,f,?_⟩
   conv=>whnf
   refine⟨?_,?_⟩;rotate_left
   focus
    conv=>whnf
    refine⟨trivial,?_⟩
   rotate_right
   focus
    conv=>whnf
    refine⟨trivial,?_⟩
  rotate_right
  focus
   conv=>whnf
   refine⟨by kernel_rfl,?_⟩
   conv=>whnf
   refine⟨_,f,?_⟩
   conv=>whnf
   refine⟨trivial,?_⟩
  all_goals
   conv=>whnf
   cases h;exact k
 conv=>whnf
 refine Xt h (λL _ h=>?_)
 conv=>whnf
 refine Xt h (λIsBlock0 _ h=>?_)
 conv=>whnf
 refine Zu3 h (λh=>?_) (λh=>?_)
 conv=>whnf
 refine Zdu h (λh=>?_) (λh=>?_)
 conv=>whnf
 refine Xt h (λc _ h=>?_)
 conv=>whnf
 refine Zdu h (λh=>?_) (λh=>?_)
 focus
  conv=>whnf
  refine Xt h (λb _ h=>?_)
  iterate 2 ((conv=>whnf);refine⟨by kernel_rfl,?_⟩)
  conv=>whnf
  obtain⟨l,g,h⟩:=Uv.1 h;refine⟨?_,?_⟩;rotate_left
  focus
   conv=>whnf
   refine⟨by kernel_rfl,?_⟩
   conv=>whnf
   refine⟨_,g,?_⟩
   conv=>whnf
   refine⟨?_,?_⟩;rotate_left
   focus
    conv=>whnf
    refine⟨trivial,?_⟩
   rotate_right
   focus
    conv=>whnf
    refine⟨trivial,?_⟩
  rotate_right
  focus
   conv=>whnf
   refine⟨by kernel_rfl,?_⟩
   conv=>whnf
   refine⟨_,g,?_⟩
   conv=>whnf
   refine⟨trivial,?_⟩
  all_goals
   conv=>whnf
   cases h;exact k
 focus
  iterate 2 ((conv=>whnf);refine⟨by kernel_rfl,?_⟩)
  conv=>whnf
  obtain⟨l,i,h⟩:=Uv.1 h;refine⟨?_,?_⟩;rotate_left
  focus
   conv=>whnf
   refine⟨by kernel_rfl,?_⟩
   conv=>whnf
   refine⟨_,i,?_⟩
   conv=>whnf
   refine⟨?_,?_⟩;rotate_left
   focus
    conv=>whnf
    refine⟨trivial,?_⟩
   rotate_right
   focus
    conv=>whnf
    refine⟨trivial,?_⟩
  rotate_right
  focus
   conv=>whnf
   refine⟨by kernel_rfl,?_⟩
   conv=>whnf
   refine⟨_,i,?_⟩
   conv=>whnf
   refine⟨trivial,?_⟩
  all_goals
   conv=>whnf
   cases h;exact k
 focus
  iterate 2 ((conv=>whnf);refine⟨by kernel_rfl,?_⟩)
  conv=>whnf
  obtain⟨l,j,h⟩:=Uv.1 h;refine⟨?_,?_⟩;rotate_left
  focus
   conv=>whnf
   refine⟨by kernel_rfl,?_⟩
   conv=>whnf
   refine⟨_,j,?_⟩
   conv=>whnf
   refine⟨?_,?_⟩;rotate_left
   focus
    conv=>whnf
    refine⟨trivial,?_⟩
   rotate_right
   focus
    conv=>whnf
    refine⟨trivial,?_⟩
  rotate_right
  focus
   conv=>whnf
   refine⟨by kernel_rfl,?_⟩
   conv=>whnf
   refine⟨_,j,?_⟩
   conv=>whnf
   refine⟨trivial,?_⟩
  all_goals
   conv=>whnf
   cases h;exact k
 focus
  iterate 2 ((conv=>whnf);refine⟨by kernel_rfl,?_⟩)
  conv=>whnf
  obtain⟨l,m,h⟩:=Uv.1 h;refine⟨?_,?_⟩;rotate_left
  focus
   conv=>whnf
   refine⟨by kernel_rfl,?_⟩
   conv=>whnf
   refine⟨_,m,?_⟩
   conv=>whnf
   refine⟨?_,?_⟩;rotate_left
   focus
    conv=>whnf
    refine⟨trivial,?_⟩
   rotate_right
   focus
    conv=>whnf
    refine⟨trivial,?_⟩
  rotate_right
  focus
   conv=>whnf
   refine⟨by kernel_rfl,?_⟩
   conv=>whnf
   refine⟨_,m,?_⟩
   conv=>whnf
   refine⟨trivial,?_⟩
  all_goals
   conv=>whnf
   cases h;exact k
end Go.Proofs.YtoijdogpgpbddaaGreatDoor
