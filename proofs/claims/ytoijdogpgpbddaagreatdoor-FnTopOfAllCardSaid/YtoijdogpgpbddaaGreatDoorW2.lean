/-
  The functions keep their contracts, if what they call does. Printed by program.
-/
import Derived.Test.YtoijdogpgpbddaaGreatDoorM
import Derived.KernelRfl
namespace Go.Proofs.YtoijdogpgpbddaaGreatDoor
open Go Go.Sx
set_option maxRecDepth 100000
set_option maxHeartbeats 100000000
set_option linter.unusedVariables false
set_option linter.unusedSimpArgs false
structure Ws2:Prop where
 w220:Sq 332 ZI1->Sq 302 ZI2
 w219:Sq 332 ZI1
 w267:Sq 117 c171->Sq 122 ZGC
 w183:Sq 142 c182->Sq 207 c183
 w142:Sq 364 ZIs
 w152:Sq 354 c152
 w147:Sq 349 ZIm->Sq 350 c141->Sq 351 ZIt->Sq 352 c146->Sq 340 c145->Sq 208 ZtO->Sq 337 ZIu
 w146:Sq 340 c145->Sq 208 ZtO->Sq 352 c146
 w162:Sq 188 ZEm->Sq 208 ZtO->Sq 223 c162
 w294:Sq 117 c171->Sq 203 ZJO->Sq 139 ZJP
 w292:Sq 204 ZJN
 w171:Sq 117 c171
 w180:Sq 117 c171->Sq 189 ZHw
 w241:Sq 208 ZtO->Sq 242 ZI8->Sq 241 ZJb->Sq 117 c171->Sq 229 ZHx->Sq 243 c160->Sq 223 c162->Sq 141 ZEl->Sq 184 ZJc
 w291:Sq 29 ZHI->Sq 62 ZJz->Sq 61 ZGa->Sq 64 ZJC->Sq 63 ZJL->Sq 26 ZJM
 w248:Sq 293 ZJh->Sq 246 ZJi
 w174:Sq 159 ZIF->Sq 117 c171->Sq 160 c173->Sq 95 ZHv
 w157:Sq 161 ZF5->Sq 311 c127->Sq 312 ZIx->Sq 208 ZtO->Sq 313 c156->Sq 265 c157
 w170:Sq 220 ZIA->Sq 221 c159->Sq 222 ZID->Sq 223 c162->Sq 224 ZIE->Sq 159 ZIF
 w173:Sq 141 ZEl->Sq 208 ZtO->Sq 226 ZIH->Sq 166 ZDK->Sq 160 c173
 w213:Sq 234 c212->Sq 174 c213
 w275:Sq 60 ZF8->Sq 68 ZF6->Sq 69 c198->Sq 70 ZHG->Sq 71 ZJx->Sq 72 ZHH->Sq 29 ZHI
 w233:Sq 177 c233
 w225:Sq 320 ZI4->Sq 279 ZF7->Sq 278 ZHB
 w262:Sq 190 ZDL->Sq 123 ZGA
 w175:Sq 162 c175
 w141:Sq 359 ZIr->Sq 350 c141
 w138:Sq 361 ZIp->Sq 362 ZIq->Sq 360 c138
 w130:Sq 208 ZtO->Sq 230 c130
 w244:Sq 291 ZJe->Sq 244 ZJf
 w204:Sq 231 c203->Sq 169 ZIV
 w235:Sq 101 c208->Sq 102 c234->Sq 103 ZEn->Sq 55 ZI7
 w289:Sq 163 ZDM->Sq 129 ZHJ->Sq 175 ZHA->Sq 193 ZJJ->Sq 102 c234->Sq 103 ZEn->Sq 127 ZJK
 w135:Sq 141 ZEl->Sq 208 ZtO->Sq 166 ZDK->Sq 168 ZGy->Sq 366 ZIo
 w128:Sq 349 ZIm
 w134:Sq 168 ZGy
 w122:Sq 208 ZtO->Sq 227 ZlK->Sq 228 Zh3->Sq 161 ZF5
 w190:Sq 208 ZtO->Sq 178 ZIO
 w123:Sq 336 ZHu
 w189:Sq 165 ZIN
 w129:Sq 141 ZEl
 w185:Sq 117 c171->Sq 140 ZIK->Sq 141 ZEl->Sq 142 c182->Sq 143 ZIM->Sq 68 ZF6
 w240:Sq 290 ZJa->Sq 241 ZJb
 w218:Sq 277 c218
 w282:Sq 163 ZDM->Sq 166 ZDK->Sq 168 ZGy->Sq 125 ZJD
 w197:Sq 163 ZDM->Sq 208 ZtO->Sq 144 ZIR
 w187:Sq 229 ZHx->Sq 163 ZDM
 w223:Sq 345 c222->Sq 320 ZI4
 w324:Sq 77 ZQf->Sq 78 ZQg->Sq 79 ZQi->Sq 33 ZQj
 w328:Sq 38 ZPU->Sq 37 ZPV->Sq 80 ZP2->Sq 36 ZQm
 w318:Sq 76 ZQc->Sq 32 ZQd
 w329:Sq 35 ZPM->Sq 36 ZQm->Sq 11 ZQn
 w320:Sq 35 ZPM->Sq 149 ZQe->Sq 77 ZQf
 w310:Sq 35 ZPM->Sq 260 ZP5->Sq 210 ZP6
 w321:Sq 35 ZPM->Sq 37 ZPV->Sq 78 ZQg
 w67:Sq 8 c67
 w302:Sq 74 ZJU->Sq 75 ZJV->Sq 31 ZJW
 w300:Sq 147 ZHK->Sq 74 ZJU
 w255:Sq 250 ZJo
 w179:Sq 190 ZDL
 w259:Sq 253 ZJs
 w150:Sq 353 ZIv->Sq 338 ZIw
 w169:Sq 268 c168->Sq 224 ZIE
 w125:Sq 295 c124->Sq 314 ZIl
 w243:Sq 292 ZJd->Sq 291 ZJe
 w143:Sq 364 ZIs->Sq 363 c143
 w210:Sq 233 ZIX->Sq 232 c210
 w139:Sq 360 c138->Sq 365 c139
 w293:Sq 204 ZJN->Sq 203 ZJO
 w202:Sq 171 ZIU
 w124:Sq 295 c124
 w137:Sq 362 ZIq
 w118:Sq 52 c117->Sq 20 ZIj
 w35:Sq 51 c33->Sq 47 c14->Sq 84 c34->Sq 41 c35
 w85:Sq 94 c21->Sq 158 c20->Sq 104 c85
 w33:Sq 91 c30->Sq 92 c31->Sq 93 c32->Sq 51 c33
 w116:Sq 51 c33->Sq 42 c13->Sq 19 c116
 w92:Sq 105 c87->Sq 57 c73->Sq 111 c77->Sq 59 c76->Sq 181 c91->Sq 107 c92
 w2:Sq 16 c2
 w23:Sq 94 c21->Sq 348 c23
 w5:Sq 334 c4->Sq 16 c2->Sq 308 c5
 w100:Sq 323 c98->Sq 287 c99->Sq 284 ZHq
 w98:Sq 323 c98
 w6:Sq 308 c5->Sq 262 c6
 w8:Sq 16 c2->Sq 212 c3->Sq 213 c7->Sq 152 c8
 w20:Sq 158 c20
 w53:Sq 216 c52->Sq 155 c53
 w3:Sq 212 c3
 w26:Sq 310 c25->Sq 264 c26
 w36:Sq 42 c13->Sq 43 c36
 w56:Sq 155 c53->Sq 156 c54->Sq 138 c55->Sq 90 c56
 w106:Sq 325 ZIc
 w57:Sq 42 c13->Sq 47 c14->Sq 135 c57
 w48:Sq 42 c13->Sq 198 c41->Sq 199 c42->Sq 158 c20->Sq 200 c43->Sq 201 c45->Sq 202 c47->Sq 47 c14->Sq 84 c34->Sq 132 c48
 w87:Sq 41 c35->Sq 57 c73->Sq 179 c86->Sq 105 c87
 w68:Sq 16 c2->Sq 14 c19->Sq 39 c18->Sq 86 c68
 w75:Sq 114 c75
 w70:Sq 109 c70
 w78:Sq 214 c78
 w80:Sq 214 c78->Sq 215 c79->Sq 154 c80
 w105:Sq 283 c97->Sq 284 ZHq->Sq 286 ZHr->Sq 285 ZIa->Sq 288 ZIb->Sq 287 c99->Sq 239 c105
 w104:Sq 288 ZIb
 w108:Sq 283 c97->Sq 284 ZHq->Sq 286 ZHr->Sq 289 c107->Sq 240 ZId
 w89:Sq 180 c89
 w90:Sq 111 c77->Sq 94 c21->Sq 113 c88->Sq 180 c89->Sq 106 c90
set_option maxHeartbeats 100000000 in
theorem ws2:Ws2:=by
 refine ⟨(λq=>Hd Zx (Ze q Zn) {} Tryz.func302 ?_),
 (Hd Zx Zn {} Tryz.func332 ?_),
 (λq=>Hd Qx (Ze q Zn) {loops:=[(0,[.reg 13 (.dat Iq),.ent 4 (nat_lit 40) (Dp.pair (Dp.ol (2:Go.TypeId) (Dp.flat (Ty.int IntKind.i64))) (Dp.pair (Dp.ol (2:Go.TypeId) (Dp.flat (Ty.int IntKind.i64))) (Dp.pair (Dp.ol (2:Go.TypeId) (Dp.flat (Ty.int IntKind.i64))) (Dp.pair (Dp.ol (2:Go.TypeId) (Dp.flat (Ty.int IntKind.i64))) (Dp.flat Ty.unit)))))]),(2,[.reg 30 (.dat Iq),.ent 4 (nat_lit 40) (Dp.pair (Dp.ol (2:Go.TypeId) (Dp.flat (Ty.int IntKind.i64))) (Dp.pair (Dp.ol (2:Go.TypeId) (Dp.flat (Ty.int IntKind.i64))) (Dp.pair (Dp.ol (2:Go.TypeId) (Dp.flat (Ty.int IntKind.i64))) (Dp.pair (Dp.ol (2:Go.TypeId) (Dp.flat (Ty.int IntKind.i64))) (Dp.flat Ty.unit)))))])],draws:=[(9,[],.u 0 8 .done),(10,[],.u 0 4 (.u 5 6 (.alt 4 (.a [11,12,13] (.o [14,15] (.d 16))) (.alt 11 (.alt 4 (.a [12,13] (.o [14,15] (.d 16))) (.a [12,4,13] (.o [14,15] (.d 16)))) .done))))]} Tryz.func122 ?_),
 (λq=>Hd Zx (Ze q Zn) {loops:=[(0,[.reg 8 (.dat Iq),.ent 3 (nat_lit 2) (.flat ZBq.ety)])],draws:=[(1,[],.u 0 7 (.alt 7 (.a [8,9] (.op 10 .done)) (.a [8,7,9] (.op 10 .done)))),(6,[],.u 0 22 (.d 22))]} Tryz.func207 ?_),
 (Hd Zx Zn {} Tryz.func364 ?_),
 (Hd Zx Zn {} Tryz.func354 ?_),
 (λf c b q Q g=>Hd Zx (Ze f (Ze c (Ze b (Ze q (Ze Q (Ze g Zn)))))) {draws:=[(2,[],.u 0 12 (.alt 12 (.u 13 5 (.alt 18 (.u 19 11 (.alt 30 (.u 31 9 .done) .done)) .done)) .done)),(3,[],.o [0,1] (.alt 2 (.u 3 4 (.alt 7 (.u 8 6 (.alt 14 (.u 15 6 (.alt 21 (.o [22,23] .done) .done)) .done)) .done)) .done))]} Tryz.func337 ?_),
 (λq Q=>Hd Zx (Ze q (Ze Q Zn)) {} Tryz.func352 ?_),
 (λq Q=>Hd Zx (Ze q (Ze Q Zn)) {} Tryz.func223 ?_),
 (λQ q=>Hd Zx (Ze Q (Ze q Zn)) {} Tryz.func139 ?_),
 (Hd Zx Zn {} Tryz.func204 ?_),
 (Hd Zx Zn {loops:=[(0,[.reg 3 (.own (.ol 195 (.flat (Zk7)))),.reg 13 (.dat Iq)]),(2,[.reg 3 (.own (.ol 195 (.flat (Zk7)))),.reg 21 (.dat Iq)]),(4,[.reg 3 (.own (.ol 195 (.flat (Zk7)))),.reg 44 (.dat Iq)])]} Tryz.func117 ?_),
 (λq=>Hd Zx (Ze q Zn) {loops:=[(0,[.reg 5 (.own (.ol 2 (.flat Iq))),.reg 11 (.dat Iq)])]} Tryz.func189 ?_),
 (λm g j b q Q c f=>Hd Zx (Ze m (Ze g (Ze j (Ze b (Ze q (Ze Q (Ze c (Ze f Zn)))))))) {draws:=[(1,[],.o [0,1] (.alt 2 (.u 3 4 (.a [7,8] (.o [9,10] .done))) .done)),(3,[],.u 0 4 (.a [4,5] (.op 6 (.alt 7 (.op 8 .done) .done)))),(7,[],.u 0 7 (.alt 7 (.op 8 (.alt 9 (.o [10,11] .done) .done)) .done)),(9,[],.u 0 6 (.alt 6 (.u 7 11 (.alt 18 (.op 19 (.alt 20 (.o [21,22] .done) .done)) .done)) .done))]} Tryz.func184 ?_),
 (λq b c f Q=>Hd Zx (Ze q (Ze b (Ze c (Ze f (Ze Q Zn))))) {draws:=[(7,[],.o [0,1] (.u 3 5 (.a [2,8,9] (.o [10,11,12] (.alt 13 (.o [14,15] .done) .done)))))]} Tryz.func26 ?_),
 (λq=>Hd Zx (Ze q Zn) {} Tryz.func246 ?_),
 (λQ q b=>Hd Zx (Ze Q (Ze q (Ze b Zn))) {loops:=[(0,[.reg 32 (.dat Iq),.ent 1 (nat_lit 2) (.flat ZBq.ety)]),(2,[.reg 50 (.dat Iq)])],draws:=[(13,[],.u 0 5 (.alt 5 (.op 6 .done) .done))]} Tryz.func95 ?_),
 (λc b Q f q=>Hd Zx (Ze c (Ze b (Ze Q (Ze f (Ze q Zn))))) {} Tryz.func265 ?_),
 (λf b Q c q=>Hd Zx (Ze f (Ze b (Ze Q (Ze c (Ze q Zn))))) {loops:=[(0,[.reg 25 (.dat Iq),.ent 2 (nat_lit 3) (.flat Zto.ety)]),(2,[.reg 51 (.dat Iq),.ent 2 (nat_lit 3) (.flat Zto.ety)])]} Tryz.func159 ?_),
 (λq c Q b=>Hd Zx (Ze q (Ze c (Ze Q (Ze b Zn)))) {} Tryz.func160 ?_),
 (λq=>Hd Zx (Ze q Zn) {draws:=[(2,[],.o [0,1,2,5] (.alt 3 (.alt 4 (.alt 6 (.o [7,8] (.alt 9 (.o [10,11] (.d 12)) .done)) .done) (.alt 6 (.o [7,8] (.alt 4 (.alt 9 (.o [10,11] (.d 12)) .done) (.a [9,4] (.o [10,11] (.d 12))))) .done)) (.alt 4 (.alt 3 (.alt 6 (.o [7,8] (.alt 9 (.o [10,11] (.d 12)) .done)) .done) (.a [6,3] (.o [7,8] (.alt 9 (.o [10,11] (.d 12)) .done)))) (.alt 6 (.alt 3 (.o [7,8] (.alt 4 (.alt 9 (.o [10,11] (.d 12)) .done) (.a [9,4] (.o [10,11] (.d 12))))) (.a [4,3] (.o [7,8] (.alt 9 (.o [10,11] (.d 12)) .done)))) .done)))),(3,[],.u 0 7 (.u 8 5 (.a [7,13] (.o [14,15] (.alt 16 (.o [17,18] (.d 19)) .done)))))]} Tryz.func174 ?_),
 (λc f b Q q g=>Hd Zx (Ze c (Ze f (Ze b (Ze Q (Ze q (Ze g Zn)))))) {loops:=[(0,[.reg 33 (.dat Iq),.ent 3 (nat_lit 74) (.flat Qo)])]} Tryz.func29 ?_),
 (Hd Zx Zn {} Tryz.func177 ?_),
 (λq Q=>Hd Zx (Ze q (Ze Q Zn)) {loops:=[(0,[.reg 13 (.dat Iq),.reg 34 (.dat Iq)]),(2,[.reg 13 (.dat Iq),.reg 40 (.dat Iq)])],draws:=[(10,[],.u 0 22 .done)]} Tryz.func278 ?_),
 (λq=>Hd Zx (Ze q Zn) {draws:=[(1,[],.o [0,1,3,4,6,7,9,10] (.a [2,5,8,11] (.op 12 (.d 13))))]} Tryz.func123 ?_),
 (Hd Zx Zn {} Tryz.func162 ?_),
 (λq=>Hd Zx (Ze q Zn) {} Tryz.func350 ?_),
 (λQ q=>Hd Zx (Ze Q (Ze q Zn)) {} Tryz.func360 ?_),
 (λq=>Hd Zx (Ze q Zn) {} Tryz.func230 ?_),
 (λq=>Hd Zx (Ze q Zn) {} Tryz.func244 ?_),
 (λq=>Hd Zx (Ze q Zn) {loops:=[(0,[.reg 5 (.own (.ol 2 (.flat Iq))),.reg 16 (.dat Iq)])]} Tryz.func169 ?_),
 (λQ q b=>Hd Zx (Ze Q (Ze q (Ze b Zn))) {loops:=[(0,[.reg 22 (.dat Iq),.cello 1008 0 (.ol 4 (.flat (.bool))),.cello 1008 1 (.ol 72 (.flat (Zaa))),.cello 1008 2 (.ol 72 (.flat (Zaa))),.ent 2 (nat_lit 4) (.flat Ty.bool),.ent 3 (nat_lit 72) (.flat Zaa),.ent 4 (nat_lit 72) (.flat Zaa)])],draws:=[(8,[],.u 0 4 (.o [5,6,8,9,10,12,14] (.l [4,7,11,13] (.alt 15 (.op 16 (.alt 17 (.op 18 (.d 19)) .done)) .done))))]} Tryz.func55 ?_),
 (λc Q f q b g=>Hd Qx (Ze c (Ze Q (Ze f (Ze q (Ze b (Ze g Zn)))))) {loops:=[(0,[.reg 15 (.own (.ol 2 (.flat Iq))),.reg 28 (.dat Iq),.ent 0 (nat_lit 4) (.flat Ty.bool),.ent 1 (nat_lit 72) (.flat Zaa),.ent 2 (nat_lit 72) (.flat Zaa),.ent 6 (nat_lit 4) (.flat ZyF.ety)])],draws:=[(11,[],.u 0 30 (.d 30)),(12,[],.u 0 4 (.o [5,6,8,9,10,12,14] (.l [4,7,11,13] (.alt 15 (.op 16 (.alt 17 (.op 18 (.d 19)) .done)) .done))))]} Tryz.func127 ?_),
 (λq c b Q=>Hd Zx (Ze q (Ze c (Ze b (Ze Q Zn)))) {} Tryz.func366 ?_),
 (Hd Zx Zn {} Tryz.func349 ?_),
 (Hd Zx Zn {loops:=[(0,[.reg 3 (.dat Iq)])],draws:=[(4,[],.u 0 10 .done)]} Tryz.func168 ?_),
 (λb Q q=>Hd Zx (Ze b (Ze Q (Ze q Zn))) {} Tryz.func161 ?_),
 (λq=>Hd Zx (Ze q Zn) {} Tryz.func178 ?_),
 (Hd Zx Zn {} Tryz.func336 ?_),
 (Hd Zx Zn {} Tryz.func165 ?_),
 (Hd Zx Zn {} Tryz.func141 ?_),
 (λc Q f b q=>Hd Qx (Ze c (Ze Q (Ze f (Ze b (Ze q Zn))))) {loops:=[(0,[.reg 4 (.dat Iq),.reg 25 (.dat Iq),.cello 1020 6 (.ol 222 (.flat (ZcP)))]),(2,[.reg 60 (.dat Iq),.ent 4 (nat_lit 2) (.flat ZBq.ety),.ent 5 (nat_lit 38) (Dp.ol (2:Go.TypeId) (Dp.flat (Ty.int IntKind.i64)))]),(4,[.reg 88 (.dat Iq),.cello 1020 7 (.ol 2 (.flat Iq)),.cello 1020 8 (.ol 38 (.ol 2 (.flat Iq))),.cello 1020 6 (.ol (nat_lit 222) (.flat ZcP)),.ent 5 (nat_lit 38) (Dp.ol (2:Go.TypeId) (Dp.flat (Ty.int IntKind.i64)))]),(6,[.reg 122 (.dat Iq),.cello 1020 6 (.ol (nat_lit 222) (.flat ZcP))]),(8,[.reg 127 (.dat Iq),.cello 1020 6 (.ol (nat_lit 222) (.flat ZcP))])],draws:=[(1,[],.o [0,1,2] (.alt 3 (.op 4 (.alt 5 (.op 6 .done) .done)) .done)),(6,[],.u 0 8 (.a [8,9] (.o [10,11] (.d 12)))),(16,[],.o [0,1] (.u 3 6 (.ld 2 (.a [9,10] (.op 11 (.d 12)))))),(21,[],.u 0 7 (.alt 7 (.o [8,9] (.a [10,11] (.o [12,13] (.d 14)))) .done)),(22,[],.u 0 7 (.a [7,8,9] (.o [10,11] (.d 12)))),(29,[],.u 0 18 (.a [18,19] (.o [20,21] (.d 22))))]} Tryz.func68 ?_),
 (λq=>Hd Zx (Ze q Zn) {} Tryz.func241 ?_),
 (Hd Zx Zn {draws:=[(1,[],.u 0 18 (.a [18,19] .done)),(2,[],.u 0 15 (.d 15))]} Tryz.func277 ?_),
 (λQ b q=>Hd Zx (Ze Q (Ze b (Ze q Zn))) {} Tryz.func125 ?_),
 (λq Q=>Hd Zx (Ze q (Ze Q Zn)) {} Tryz.func144 ?_),
 (λq=>Hd Zx (Ze q Zn) {} Tryz.func163 ?_),
 (λq=>Hd Zx (Ze q Zn) {draws:=[(1,[],.u 0 13 .done),(5,[],.u 0 18 (.u 19 10 (.alt 18 (.o [29,30] .done) .done)))]} Tryz.func320 ?_),
 (λq Q b=>Hd Qx (Ze q (Ze Q (Ze b Zn))) {} Tryz.func33 ?_),
 (λq Q b=>Hd Zx (Ze q (Ze Q (Ze b Zn))) {} Tryz.func36 ?_),
 (λq=>Hd Qx (Ze q Zn) {} Tryz.func32 ?_),
 (λq Q=>Hd Qx (Ze q (Ze Q Zn)) {loops:=[(0,[.reg 3 (.own (.ol 42 (ZtU))),.reg 4 (.dat Iq),.cell 0 0 (.sl (.int .u8))])]} Tryz.func11 ?_),
 (λQ q=>Hd Qx (Ze Q (Ze q Zn)) {loops:=[(0,[.reg 3 (.own (.ol 105 (Zh6))),.reg 4 (.dat Iq),.cell 0 0 (.sl (.int .u8))])]} Tryz.func77 ?_),
 (λq Q=>Hd Zx (Ze q (Ze Q Zn)) {loops:=[(0,[.reg 3 (.own (.ol 277 (.flat (Znm)))),.reg 4 (.dat Iq),.cell 0 0 (.sl (.int .u8))])]} Tryz.func210 ?_),
 (λq Q=>Hd Zx (Ze q (Ze Q Zn)) {loops:=[(0,[.reg 3 (.own (.ol 9 (.flat (.str)))),.reg 4 (.dat Iq),.cell 0 0 (.sl (.int .u8))])]} Tryz.func78 ?_),
 (Hd Zx Zn {} Tryz.func8 ?_),
 (λq Q=>Hd Zx (Ze q (Ze Q Zn)) {loops:=[(0,[.reg 5 (.dat Iq)])],draws:=[(6,[],.u 0 10 (.alt 10 (.op 11 .done) .done))]} Tryz.func31 ?_),
 (λq=>Hd Zx (Ze q Zn) {loops:=[(0,[.reg 5 (.dat Iq)]),(2,[.reg 6 (.dat Iq)]),(4,[.reg 7 (.dat Iq)])],draws:=[(6,[],.u 0 41 (.alt 41 (.o [42,43] .done) .done)),(11,[],.u 0 11 .done),(16,[],.u 0 11 .done)]} Tryz.func74 ?_),
 (Hd Zx Zn {} Tryz.func250 ?_),
 (Hd Zx Zn {} Tryz.func190 ?_),
 (Hd Zx Zn {} Tryz.func253 ?_),
 (λq=>Hd Zx (Ze q Zn) {} Tryz.func338 ?_),
 (λq=>Hd Zx (Ze q Zn) {} Tryz.func224 ?_),
 (λq=>Hd Zx (Ze q Zn) {} Tryz.func314 ?_),
 (λq=>Hd Zx (Ze q Zn) {loops:=[(0,[.reg 17 (.dat Iq)])]} Tryz.func291 ?_),
 (λq=>Hd Zx (Ze q Zn) {loops:=[(0,[.reg 8 (.dat Iq)])]} Tryz.func363 ?_),
 (λq=>Hd Zx (Ze q Zn) {loops:=[(0,[.reg 8 (.dat Iq)])]} Tryz.func232 ?_),
 (λq=>Hd Zx (Ze q Zn) {loops:=[(0,[.reg 8 (.dat Iq)])]} Tryz.func365 ?_),
 (λq=>Hd Zx (Ze q Zn) {loops:=[(0,[.reg 8 (.dat Iq)])]} Tryz.func203 ?_),
 (Hd Zx Zn {loops:=[(0,[.reg 8 (.dat Iq)])]} Tryz.func171 ?_),
 (Hd Zx Zn {loops:=[(0,[.reg 8 (.dat Iq)])]} Tryz.func295 ?_),
 (Hd Zx Zn {loops:=[(0,[.reg 3 (.dat Iq),.reg 4 (.dat Iq)])]} Tryz.func362 ?_),
 (λq=>Hd Zx (Ze q Zn) {draws:=[(4,[],.u 0 6 .done)]} Tryz.func20 ?_),
 (λq Q b=>Hd Zx (Ze q (Ze Q (Ze b Zn))) {loops:=[(0,[.reg 3 (.dat Iq)])],draws:=[(6,[],.u 0 8 (.alt 8 (.op 9 (.alt 10 (.op 11 .done) .done)) .done))]} Tryz.func41 ?_),
 (λQ q=>Hd Zx (Ze Q (Ze q Zn)) {loops:=[(0,[.reg 4 (.dat Iq)])]} Tryz.func104 ?_),
 (λq Q b=>Hd Zx (Ze q (Ze Q (Ze b Zn))) {loops:=[(0,[.reg 5 (.own (.ol 9 (.flat (.str)))),.reg 6 (.dat Iq)]),(2,[.reg 7 (.own (.ol 9 (.flat (.str)))),.reg 8 (.dat Iq)]),(4,[.reg 10 (.dat Iq),.ent 6 (nat_lit 2) (.flat ZBq.ety)]),(6,[.reg 12 (.dat Iq),.ent 6 (nat_lit 2) (.flat ZBq.ety)]),(8,[.reg 13 (.dat Iq)])]} Tryz.func51 ?_),
 (λQ q=>Hd Zx (Ze Q (Ze q Zn)) {} Tryz.func19 ?_),
 (λc q Q f b=>Hd Zx (Ze c (Ze q (Ze Q (Ze f (Ze b Zn))))) {} Tryz.func107 ?_),
 (Hd Zx Zn {draws:=[(3,[],.u 0 10 .done),(4,[],.u 0 10 (.alt 10 (.op 11 .done) .done))]} Tryz.func16 ?_),
 (λq=>Hd Zx (Ze q Zn) {loops:=[(0,[.reg 3 (.dat Iq)])],draws:=[(4,[],.u 0 4 (.alt 4 (.u 5 17 .done) .done))]} Tryz.func348 ?_),
 (λq Q=>Hd Zx (Ze q (Ze Q Zn)) {loops:=[(0,[.reg 7 (.own (.ol 2 (.flat Iq))),.reg 9 (.dat Iq),.cell 1000 0 (.sl (.int .u8)),.cell 1000 1 Iq,.cell 1000 2 Iq])],draws:=[(10,[],.u 0 5 (.op 6 (.alt 5 (.alt 7 (.o [8,9,10] .done) .done) (.a [7,5] (.o [8,9,10] .done))))),(12,[],.u 0 6 (.op 7 (.alt 6 (.alt 8 (.o [9,10,11] .done) .done) (.a [8,6] (.o [9,10,11] .done)))))]} Tryz.func308 ?_),
 (λq Q=>Hd Zx (Ze q (Ze Q Zn)) {loops:=[(0,[.reg 16 (.dat Iq),.reg 17 (.dat Iq)]),(2,[.reg 16 (.dat Iq),.reg 18 (.dat Iq)])]} Tryz.func284 ?_),
 (Hd Zx Zn {loops:=[(0,[.reg 8 (.dat Iq)])],draws:=[(10,[],.u 0 17 .done)]} Tryz.func323 ?_),
 (λq=>Hd Qx (Ze q Zn) {draws:=[(2,[],.o [1,2] (.ld 0 (.a [3,4] (.op 5 .done))))]} Tryz.func262 ?_),
 (λb Q q=>Hd Qx (Ze b (Ze Q (Ze q Zn))) {loops:=[(0,[.reg 9 (.own (.ol 277 (.flat (Znm)))),.reg 10 (.dat Iq),.cell 1000 0 (.sl (.int .u8)),.cell 1000 1 Iq,.cell 1000 2 Iq]),(2,[.reg 12 (.own (.ol 186 (ZDQ))),.reg 13 (.dat Iq),.cell 1000 0 (.sl (.int .u8)),.cell 1000 1 Iq,.cell 1000 2 Iq])],draws:=[(7,[],.u 0 5 (.op 6 (.alt 5 (.alt 7 (.o [8,9] (.a [10,11] (.op 12 .done))) .done) (.alt 7 (.op 8 (.alt 5 (.op 9 (.a [10,11] (.op 12 .done))) .done)) .done))))]} Tryz.func152 ?_),
 (Hd Zx Zn {loops:=[(0,[.reg 3 (.dat Iq)])]} Tryz.func158 ?_),
 (λq=>Hd Qx (Ze q Zn) {loops:=[(0,[.reg 4 (.dat Iq),.cello 1003 0 (.ol 183 (Zsl))])],draws:=[(5,[],.u 0 7 (.a [7,8,9] (.op 10 (.d 11))))]} Tryz.func155 ?_),
 (Hd Zx Zn {loops:=[(0,[.reg 5 (.dat (.bool)),.reg 6 (.dat (.bool)),.reg 8 (.dat Iq)])],draws:=[(7,[],.u 0 17 .done),(8,[],.u 0 17 .done)]} Tryz.func212 ?_),
 (λq=>Hd Zx (Ze q Zn) {loops:=[(0,[.reg 5 (.dat Iq)])]} Tryz.func264 ?_),
 (λq=>Hd Zx (Ze q Zn) {loops:=[(0,[.reg 8 (.dat Iq)])]} Tryz.func43 ?_),
 (λq b Q=>Hd Qx (Ze q (Ze b (Ze Q Zn))) {loops:=[(0,[.reg 4 (.dat Iq),.cello 1003 4 (.ol 40 (ZoN))])],draws:=[(1,[],.o [0,1,3,4] (.alt 2 (.alt 5 (.op 6 (.a [7,8] .done)) (.a [7,5] (.op 6 (.d 8)))) (.a [7,2,5] (.op 6 (.d 8))))),(5,[],.u 0 7 (.a [7,8,9] (.op 10 (.d 11))))]} Tryz.func90 ?_),
 (Hd Zx Zn {loops:=[(0,[.reg 5 (.dat Iq),.reg 6 (.dat Iq)])]} Tryz.func325 ?_),
 (λq Q=>Hd Zx (Ze q (Ze Q Zn)) {loops:=[(0,[.reg 4 (.dat Iq),.ent 2 (nat_lit 2) (.flat ZBq.ety)]),(2,[.reg 6 (.dat Iq),.ent 2 (nat_lit 2) (.flat ZBq.ety)])],draws:=[(9,[],.u 0 15 (.d 15))]} Tryz.func135 ?_),
 (λQ c b j q f m g s=>Hd Zx (Ze Q (Ze c (Ze b (Ze j (Ze q (Ze f (Ze m (Ze g (Ze s Zn))))))))) {draws:=[(5,[],.u 0 28 (.alt 28 (.o [29,30] .done) .done)),(11,[],.u 0 19 .done),(12,[],.u 0 6 (.alt 6 (.op 7 (.alt 8 (.op 9 .done) .done)) .done))]} Tryz.func132 ?_),
 (λb Q q=>Hd Zx (Ze b (Ze Q (Ze q Zn))) {} Tryz.func105 ?_),
 (λQ q b=>Hd Qx (Ze Q (Ze q (Ze b Zn))) {} Tryz.func86 ?_),
 (Hd Zx Zn {loops:=[(0,[.reg 5 (.dat Iq)])]} Tryz.func114 ?_),
 (Hd Qx Zn {} Tryz.func109 ?_),
 (Hd Zx Zn {loops:=[(0,[.reg 12 (.dat (.bool)),.ent 0 (nat_lit 4) (.flat ZyF.ety)]),(2,[.reg 12 (.dat (.bool)),.reg 13 (.dat Iq),.ent 0 (nat_lit 4) (.flat ZyF.ety)])],draws:=[(9,[],.u 0 12 .done)]} Tryz.func214 ?_),
 (λq Q=>Hd Qx (Ze q (Ze Q Zn)) {loops:=[(0,[.reg 7 (.own (.ol 38 (.ol 2 (.flat Iq)))),.reg 9 (.dat Iq),.ent 1 (nat_lit 4) (.flat ZyF.ety)]),(2,[.reg 12 (.own (.ol 2 (.flat Iq))),.reg 13 (.dat Iq),.ent 1 (nat_lit 4) (.flat ZyF.ety)])]} Tryz.func154 ?_),
 (λc b f q Q g=>Hd Zx (Ze c (Ze b (Ze f (Ze q (Ze Q (Ze g Zn)))))) {draws:=[(5,[],.o [0,1,2,4,6,7] (.a [3,5] (.o [8,9,10] .done)))]} Tryz.func239 ?_),
 (Hd Zx Zn {} Tryz.func288 ?_),
 (λb q c Q=>Hd Zx (Ze b (Ze q (Ze c (Ze Q Zn)))) {draws:=[(4,[],.o [0,1,2] (.u 4 4 (.a [3,8] (.o [9,10] .done))))]} Tryz.func240 ?_),
 (Hd Zx Zn {} Tryz.func180 ?_),
 (λq c b Q=>Hd Zx (Ze q (Ze c (Ze b (Ze Q Zn)))) {loops:=[(0,[.reg 6 (.dat Iq)])],draws:=[(5,[],.u 0 7 (.alt 7 (.u 8 25 (.alt 33 (.u 34 8 (.alt 42 (.o [43,44] .done) .done)) .done)) .done))]} Tryz.func106 ?_)⟩
 all_goals
  intro a;repeat rcases a with⟨_,a⟩
  rintro K ⟨r,h,k⟩;repeat'
    conv=>whnf
    first
    |with_reducible refine ZjM ?_
    |with_reducible refine Znp (by assumption) (by assumption) (by assumption) ?_
    |with_reducible refine ZO (by assumption) ?_
    |with_reducible refine ZnB (by assumption) ?_
    |(with_reducible refine shD ?_);first|refine Zdu h (λh=>?_) (λh=>?_)|refine ZFY h (λh=>?_) (λh=>?_)
    |(with_reducible refine ZFf ?_);first|refine ZqX ?_|refine ZqQ ?_
    |(with_reducible refine ZKd ?_);first|refine Zu3 h (λh=>?_) (λh=>?_)|refine ZFX h (λh=>?_) (λh=>?_)
    |(with_reducible refine ZFe ?_);(refine⟨λN=>?_,?_⟩)<;>try subst N
    |(with_reducible refine ZKf ?_);first|with_reducible refine Xt h (λx H h=>?_)|refine ZnB (by assumption) ?_|with_reducible refine pG h (λp h=>?_)|with_reducible refine pA h (λx n H i h=>?_)|with_reducible refine pB h (λx H h=>?_)|refine Xt h (λx H h=>?_)
    |(with_reducible refine ZKc ?_);first|with_reducible refine vAt h (λx n H i h=>?_)|refine Znp (by assumption) (by assumption) (by assumption) ?_|with_reducible refine pG h (λp h=>?_)|with_reducible refine pA h (λx n H i h=>?_)|with_reducible refine pB h (λx H h=>?_)|refine vAt h (λx n H i h=>?_)
    |(with_reducible refine ZFd ?_);first|with_reducible refine Zyw h (λx H h=>?_)|refine ZO (by assumption) ?_|with_reducible refine pG h (λp h=>?_)|with_reducible refine pA h (λx n H i h=>?_)|with_reducible refine pB h (λx H h=>?_)|refine Zyw h (λx H h=>?_)
    |with_reducible refine ZKe ?_
    |(with_reducible refine ZBa ?_);refine ZBA h k ?_;clear h k;intro I μ v r h k;(repeat rcases v with⟨_,v⟩);(try dsimp only at h)
    |with_reducible refine⟨by assumption,?_⟩
    |with_reducible refine orL ?_
    |with_reducible refine .inr ?_
    |(with_reducible refine ZFg ?_);first|refine⟨?_,True.intro⟩|refine⟨?_,?_⟩
    |refine⟨by kernel_rfl,?_⟩
    |refine⟨by decide,?_⟩
    |with_reducible refine Zro h (λp h=>?_)
    |intro F
    |exact trivial
    |with_reducible exact ZEy h
    |(refine pS h (λe=>?_));subst e;(repeat (first|exact k|exact⟨⟨rfl,rfl⟩,k.1 _ rfl⟩|(refine pR k (λe k=>?_));subst e));done
    |refine Zro h (λp h=>?_)
    |refine⟨by assumption,?_⟩
    |with_reducible refine pG h (λp h=>?_)|with_reducible refine pA h (λx n H i h=>?_)|with_reducible refine pB h (λx H h=>?_)
    |refine pG h (λp h=>?_)
    |fail
theorem ZN5 (B:Sq 117 c171) (Q:Sq 190 ZDL) (C:Sq 188 ZEm) (E:Sq 195 Zpu) (D:Sq 196 ZlJ):Sq 128 ZJA:=by
 refine Hd Zx (Ze B (Ze Q (Ze C (Ze E (Ze D Zn))))) {draws:=[(5,[],.o [0,1,2,4,5] (.alt 3 (.u 6 6 (.alt 12 (.op 13 .done) .done)) .done)),(7,[],.o [0,2,3,7,8] (.alt 1 (.o [4,5,6] (.a [9,10] (.op 11 .done))) .done)),(11,[],.o [0,2,3,7,8] (.alt 1 (.o [4,5,6] (.alt 9 (.op 10 .done) .done)) .done))]} Tryz.func128 ?_;rintro⟨a0,A,⟨⟩⟩ K ⟨r,h,k⟩
 change ZaB a0 A=some r at h
 unfold ZaB at h
 conv=>whnf
 refine Zdu h (λh=>?_) (λh=>?_)
 conv=>whnf
 refine⟨by kernel_rfl,?_⟩
 conv=>whnf
 refine Xt h (λp _ h=>?_)
 conv=>whnf
 refine vAt h (λX d e f h=>?_)
 conv=>whnf
 refine⟨by kernel_rfl,?_⟩
 conv=>whnf
 refine⟨d,e,ZO f ?_⟩
 conv=>whnf
 refine vAt h (λF w y z h=>?_)
 conv=>whnf
 refine Xt h (λ_ _ h=>?_)
 conv=>whnf
 refine⟨trivial,?_⟩
 conv=>whnf
 refine Xt h (λs _ h=>?_)
 conv=>whnf
 refine Xt h (λc _ h=>?_)
 conv=>whnf
 cases h;exact k
 conv=>whnf
 refine Zdu h (λh=>?_) (λh=>?_)
 conv=>whnf
 refine⟨by kernel_rfl,?_⟩
 conv=>whnf
 refine Xt h (λp _ h=>?_)
 conv=>whnf
 refine vAt h (λX g i j h=>?_)
 conv=>whnf
 refine⟨by kernel_rfl,?_⟩
 conv=>whnf
 refine⟨g,i,ZO j ?_⟩
 conv=>whnf
 refine Xt h (λ_ _ h=>?_)
 conv=>whnf
 refine⟨trivial,?_⟩
 conv=>whnf
 refine Xt h (λs _ h=>?_)
 conv=>whnf
 refine Xt h (λc _ h=>?_)
 conv=>whnf
 cases h;exact k
 conv=>whnf
 refine Zdu h (λh=>?_) (λh=>?_)
 conv=>whnf
 refine vAt h (λX l m n h=>?_)
 conv=>whnf
 refine vAt h (λF q t v h=>?_)
 conv=>whnf
 refine Xt h (λs _ h=>?_)
 conv=>whnf
 refine Xt h (λc _ h=>?_)
 conv=>whnf
 cases h;exact k
 conv=>whnf
 refine Zdu h (λh=>?_) (λh=>?_)
 conv=>whnf
 refine⟨by kernel_rfl,?_⟩
 conv=>whnf
 refine Xt h (λp _ h=>?_)
 conv=>whnf
 refine vAt h (λX H b x h=>?_)
 conv=>whnf
 refine⟨by kernel_rfl,?_⟩
 conv=>whnf
 refine⟨H,b,ZO x ?_⟩
 conv=>whnf
 refine⟨trivial,?_⟩
 conv=>whnf
 refine Xt h (λs _ h=>?_)
 conv=>whnf
 refine Xt h (λc _ h=>?_)
 conv=>whnf
 cases h;exact k
 conv=>whnf
 refine Zdu h (λh=>?_) (λh=>?_)
 conv=>whnf
 refine Xt h (λs _ h=>?_)
 conv=>whnf
 refine Xt h (λc _ h=>?_)
 conv=>whnf
 cases h;exact k
 conv=>whnf
 refine Xt h (λs _ h=>?_)
 conv=>whnf
 refine Xt h (λc _ h=>?_)
 conv=>whnf
 cases h;exact k
theorem w_laws_FnTop (f:Sq 5 c0) (Q:Sq 6 c66) (a:Sq 8 c67) (q:Sq 7 ZIi) (b:Sq 9 ZJX):Sq 3 Zom:=by
 refine Hd Zx (Ze f (Ze Q (Ze a (Ze q (Ze b Zn))))) {} Tryz.func3 ?_;rintro⟨c,⟨⟩⟩ K ⟨r,h,k⟩
 change Zji c=some r at h
 unfold Zji at h
 conv=>whnf
 refine Xt h (λ_ _ h=>?_)
 conv=>whnf
 refine Zu3 h (λh=>?_) (λh=>?_)
 conv=>whnf
 cases h;exact k
 conv=>whnf
 refine Xt h (λ_ _ h=>?_)
 conv=>whnf
 refine Xt h (λ_ _ h=>?_)
 conv=>whnf
 refine Xt h (λ_ _ h=>?_)
 conv=>whnf
 refine Xt h (λ_ _ h=>?_)
 conv=>whnf
 cases h;exact k
theorem w60 (S:Sq 42 c13) (V:Sq 135 c57) (W:Sq 40 c16) (R:Sq 136 c58) (T:Sq 85 c15) (U:Sq 137 c59):Sq 133 c60:=by
 refine Hd Qx (Ze S (Ze V (Ze W (Ze R (Ze T (Ze U Zn)))))) {draws:=[(1,[],.o [0,1,3,4] (.alt 2 (.o [5,6] (.a [7,8] .done)) (.a [7,2] (.o [5,6] (.d 8))))),(5,[],.o [0,1] (.u 4 5 (.alt 2 (.alt 3 (.a [9,10] (.op 11 .done)) (.a [9,3,10] (.op 11 .done))) (.a [9,2,3,10] (.op 11 .done))))),(14,[],.u 0 4 (.o [6,7,9,13,14] (.l [8,10,15] (.alt 4 (.alt 5 (.alt 11 (.alt 12 (.op 16 (.a [17,18] .done)) (.a [17,12] (.op 16 (.d 18)))) (.a [17,11,12] (.op 16 (.d 18)))) (.alt 11 (.alt 5 (.alt 12 (.op 16 (.a [17,18] .done)) (.a [17,12] (.op 16 (.d 18)))) (.a [17,5,12] (.op 16 (.d 18)))) (.alt 17 (.alt 5 (.a [11,12] (.op 16 (.d 18))) (.a [11,5,12] (.op 16 (.d 18)))) .done))) (.alt 11 (.alt 4 (.alt 5 (.alt 12 (.op 16 (.a [17,18] .done)) (.a [17,12] (.op 16 (.d 18)))) (.a [17,5,12] (.op 16 (.d 18)))) (.a [17,4,5,12] (.op 16 (.d 18)))) (.alt 17 (.alt 4 (.alt 5 (.a [11,12] (.op 16 (.d 18))) (.a [11,5,12] (.op 16 (.d 18)))) (.a [11,4,5,12] (.op 16 (.d 18)))) .done)))))),(15,[],.o [0,3,4,9] (.l [1,2] (.a [5,6,7] (.op 8 (.a [10,11] .done)))))]} Tryz.func133 ?_;rintro⟨a0,Q,⟨⟩⟩ K ⟨r,h,J⟩
 change Zdc a0 Q=some r at h
 unfold Zdc at h
 focus
  iterate 4 ((conv=>whnf);first|intro _|refine⟨by kernel_rfl,?_⟩)
  conv=>whnf
  obtain⟨p,D,h⟩:=Uv.1 h;obtain⟨Y,k,m,x,h⟩:=atE h;refine⟨?_,?_⟩;rotate_left
  focus
   conv=>whnf
   refine⟨_,D,?_⟩
   conv=>whnf
   refine⟨k,m,ZO x ?_⟩
   conv=>whnf
   refine⟨by kernel_rfl,?_⟩
   conv=>whnf
   refine⟨k,m,ZO x ?_⟩
   conv=>whnf
   refine⟨trivial,?_⟩
  rotate_right
  focus
   conv=>whnf
   refine⟨_,D,?_⟩
   conv=>whnf
   refine⟨k,m,ZO x ?_⟩
   conv=>whnf
   refine⟨by kernel_rfl,?_⟩
   conv=>whnf
   refine⟨k,m,ZO x ?_⟩
   conv=>whnf
   refine⟨trivial,?_⟩
  all_goals
   focus
    conv=>whnf
    refine Xt h (λ_ _ h=>?_)
    conv=>whnf
    refine⟨by kernel_rfl,?_⟩
    conv=>whnf
    refine vAt h (λZ E G I h=>?_)
    conv=>whnf
    refine⟨by kernel_rfl,?_⟩
    conv=>whnf
    refine⟨E,G,ZO I ?_⟩
    conv=>whnf
    obtain⟨A,h⟩:=guardE h;obtain⟨B,h⟩:=guardE h;obtain⟨C,q,h⟩:=Uv.1 h;obtain⟨n,h⟩:=guardE h;refine⟨?_,?_⟩;rotate_left
    focus
     conv=>whnf
     refine⟨by decide,?_⟩
     conv=>whnf
     refine⟨A,?_⟩
     conv=>whnf
     refine⟨B,?_⟩
     conv=>whnf
     refine⟨_,q,?_⟩
     conv=>whnf
     refine⟨n,?_⟩
     conv=>whnf
     refine⟨trivial,?_⟩
    rotate_right
    focus
     conv=>whnf
     refine⟨by decide,?_⟩
     conv=>whnf
     refine⟨A,?_⟩
     conv=>whnf
     refine⟨B,?_⟩
     conv=>whnf
     refine⟨?_,?_⟩;rotate_left
     focus
      conv=>whnf
      refine⟨_,q,?_⟩
      conv=>whnf
      refine⟨n,?_⟩
      conv=>whnf
      refine⟨trivial,?_⟩
     rotate_right
     focus
      conv=>whnf
      refine⟨_,q,?_⟩
      conv=>whnf
      refine⟨n,?_⟩
      conv=>whnf
      refine⟨trivial,?_⟩
    all_goals
     conv=>whnf
     refine⟨A,?_⟩
     conv=>whnf
     refine⟨B,?_⟩
     conv=>whnf
     refine Zro h (λM h=>?_)
     conv=>whnf
     refine Zro h (λN h=>?_)
     conv=>whnf
     refine Xt h (λ_ _ h=>?_)
     conv=>whnf
     intro _
     conv=>whnf
     refine Zdu h (λh=>?_) (λh=>?_)
     focus
      conv=>whnf
      refine vAt h (λX s t v h=>?_)
      iterate 2 ((conv=>whnf);first|refine⟨by kernel_rfl,?_⟩|refine⟨by decide,?_⟩)
      conv=>whnf
      refine⟨s,t,ZO v ?_⟩
      iterate 4 ((conv=>whnf);refine⟨by kernel_rfl,?_⟩)
      conv=>whnf
      obtain⟨c,h⟩:=guardE h;obtain⟨H,h⟩:=guardE h;refine⟨?_,?_⟩;rotate_left
      focus
       conv=>whnf
       refine⟨?_,?_⟩;rotate_left
       focus
        conv=>whnf
        refine⟨?_,?_⟩;rotate_left
        focus
         conv=>whnf
         intro i
         conv=>whnf
         refine⟨by kernel_rfl,?_⟩
         conv=>whnf
         refine⟨c,?_⟩
         conv=>whnf
         intro f
         conv=>whnf
         refine⟨by kernel_rfl,?_⟩
         conv=>whnf
         refine⟨H,?_⟩
         conv=>whnf
         refine⟨trivial,?_⟩
        rotate_right
        focus
         conv=>whnf
         intro i
         conv=>whnf
         refine⟨?_,?_⟩;rotate_left
         focus
          conv=>whnf
          refine⟨by kernel_rfl,?_⟩
          conv=>whnf
          refine⟨c,?_⟩
          conv=>whnf
          intro f
          conv=>whnf
          refine⟨by kernel_rfl,?_⟩
          conv=>whnf
          refine⟨H,?_⟩
          conv=>whnf
          refine⟨trivial,?_⟩
         rotate_right
         focus
          conv=>whnf
          refine⟨by kernel_rfl,?_⟩
          conv=>whnf
          refine⟨c,?_⟩
          conv=>whnf
          intro f
          conv=>whnf
          refine⟨by kernel_rfl,?_⟩
          conv=>whnf
          refine⟨H,?_⟩
          conv=>whnf
          refine⟨trivial,?_⟩
       rotate_right
       focus
        conv=>whnf
        refine⟨?_,?_⟩;rotate_left
        focus
         conv=>whnf
         intro i
         conv=>whnf
         refine⟨by kernel_rfl,?_⟩
         conv=>whnf
         refine⟨c,?_⟩
         conv=>whnf
         intro f
         conv=>whnf
         refine⟨by kernel_rfl,?_⟩
         conv=>whnf
         refine⟨H,?_⟩
         conv=>whnf
         refine⟨trivial,?_⟩
        rotate_right
        focus
         conv=>whnf
         intro i
         conv=>whnf
         refine⟨?_,?_⟩;rotate_left
         focus
          conv=>whnf
          refine⟨by kernel_rfl,?_⟩
          conv=>whnf
          refine⟨c,?_⟩
          conv=>whnf
          intro f
          conv=>whnf
          refine⟨by kernel_rfl,?_⟩
          conv=>whnf
          refine⟨H,?_⟩
          conv=>whnf
          refine⟨trivial,?_⟩
         rotate_right
         focus
          conv=>whnf
          refine⟨by kernel_rfl,?_⟩
          conv=>whnf
          refine⟨c,?_⟩
          conv=>whnf
          intro f
          conv=>whnf
          refine⟨?_,?_⟩;rotate_left
          focus
           conv=>whnf
           refine⟨by kernel_rfl,?_⟩
           conv=>whnf
           refine⟨H,?_⟩
           conv=>whnf
           refine⟨trivial,?_⟩
          rotate_right
          focus
           conv=>whnf
           refine⟨by kernel_rfl,?_⟩
           conv=>whnf
           refine⟨H,?_⟩
           conv=>whnf
           refine⟨trivial,?_⟩
      rotate_right
      focus
       conv=>whnf
       intro i
       conv=>whnf
       refine⟨?_,?_⟩;rotate_left
       focus
        conv=>whnf
        refine⟨?_,?_⟩;rotate_left
        focus
         conv=>whnf
         refine⟨?_,?_⟩;rotate_left
         focus
          conv=>whnf
          refine⟨by kernel_rfl,?_⟩
          conv=>whnf
          refine⟨c,?_⟩
          conv=>whnf
          intro f
          conv=>whnf
          refine⟨by kernel_rfl,?_⟩
          conv=>whnf
          refine⟨H,?_⟩
          conv=>whnf
          refine⟨trivial,?_⟩
         rotate_right
         focus
          conv=>whnf
          refine⟨by kernel_rfl,?_⟩
          conv=>whnf
          refine⟨c,?_⟩
          conv=>whnf
          intro f
          conv=>whnf
          refine⟨by kernel_rfl,?_⟩
          conv=>whnf
          refine⟨H,?_⟩
          conv=>whnf
          refine⟨trivial,?_⟩
        rotate_right
        focus
         conv=>whnf
         refine⟨?_,?_⟩;rotate_left
         focus
          conv=>whnf
          refine⟨by kernel_rfl,?_⟩
          conv=>whnf
          refine⟨c,?_⟩
          conv=>whnf
          intro f
          conv=>whnf
          refine⟨by kernel_rfl,?_⟩
          conv=>whnf
          refine⟨H,?_⟩
          conv=>whnf
          refine⟨trivial,?_⟩
         rotate_right
         focus
          conv=>whnf
          refine⟨by kernel_rfl,?_⟩
          conv=>whnf
          refine⟨c,?_⟩
          conv=>whnf
          intro f
          conv=>whnf
          refine⟨?_,?_⟩;rotate_left
          focus
           conv=>whnf
           refine⟨by kernel_rfl,?_⟩
           conv=>whnf
           refine⟨H,?_⟩
           conv=>whnf
           refine⟨trivial,?_⟩
          rotate_right
          focus
           conv=>whnf
           refine⟨by kernel_rfl,?_⟩
           conv=>whnf
           refine⟨H,?_⟩
           conv=>whnf
           refine⟨trivial,?_⟩
       rotate_right
       focus
        conv=>whnf
        refine⟨by kernel_rfl,?_⟩
        conv=>whnf
        refine⟨c,?_⟩
        conv=>whnf
        intro f
        conv=>whnf
        refine⟨?_,?_⟩;rotate_left
        focus
         conv=>whnf
         refine⟨by kernel_rfl,?_⟩
         conv=>whnf
         refine⟨H,?_⟩
         conv=>whnf
         refine⟨trivial,?_⟩
        rotate_right
        focus
         conv=>whnf
         refine⟨?_,?_⟩;rotate_left
         focus
          conv=>whnf
          refine⟨by kernel_rfl,?_⟩
          conv=>whnf
          refine⟨H,?_⟩
          conv=>whnf
          refine⟨trivial,?_⟩
         rotate_right
         focus
          conv=>whnf
          refine⟨by kernel_rfl,?_⟩
          conv=>whnf
          refine⟨H,?_⟩
          conv=>whnf
          refine⟨trivial,?_⟩
      all_goals
       iterate 3 ((conv=>whnf);refine⟨by kernel_rfl,?_⟩)
       conv=>whnf
       refine Xt h (λL _ h=>?_)
       iterate 2 ((conv=>whnf);first|intro _|refine⟨by kernel_rfl,?_⟩)
       conv=>whnf
       refine Zro h (λO h=>?_)
       conv=>whnf
       intro _
       conv=>whnf
       refine Xt h (λg _ h=>?_)
       iterate 3 ((conv=>whnf);intro _)
       conv=>whnf
       refine⟨trivial,?_⟩
       conv=>whnf
       cases h;exact J
     focus
      conv=>whnf
      refine vAt h (λX w y z h=>?_)
      iterate 2 ((conv=>whnf);first|refine⟨by kernel_rfl,?_⟩|refine⟨by decide,?_⟩)
      conv=>whnf
      refine⟨w,y,ZO z ?_⟩
      iterate 4 ((conv=>whnf);refine⟨by kernel_rfl,?_⟩)
      conv=>whnf
      obtain⟨e,h⟩:=guardE h;obtain⟨b,h⟩:=guardE h;refine⟨?_,?_⟩;rotate_left
      focus
       conv=>whnf
       refine⟨?_,?_⟩;rotate_left
       focus
        conv=>whnf
        refine⟨?_,?_⟩;rotate_left
        focus
         conv=>whnf
         intro j
         conv=>whnf
         refine⟨by kernel_rfl,?_⟩
         conv=>whnf
         refine⟨e,?_⟩
         conv=>whnf
         intro F
         conv=>whnf
         refine⟨by kernel_rfl,?_⟩
         conv=>whnf
         refine⟨b,?_⟩
         conv=>whnf
         refine⟨trivial,?_⟩
        rotate_right
        focus
         conv=>whnf
         intro j
         conv=>whnf
         refine⟨?_,?_⟩;rotate_left
         focus
          conv=>whnf
          refine⟨by kernel_rfl,?_⟩
          conv=>whnf
          refine⟨e,?_⟩
          conv=>whnf
          intro F
          conv=>whnf
          refine⟨by kernel_rfl,?_⟩
          conv=>whnf
          refine⟨b,?_⟩
          conv=>whnf
          refine⟨trivial,?_⟩
         rotate_right
         focus
          conv=>whnf
          refine⟨by kernel_rfl,?_⟩
          conv=>whnf
          refine⟨e,?_⟩
          conv=>whnf
          intro F
          conv=>whnf
          refine⟨by kernel_rfl,?_⟩
          conv=>whnf
          refine⟨b,?_⟩
          conv=>whnf
          refine⟨trivial,?_⟩
       rotate_right
       focus
        conv=>whnf
        refine⟨?_,?_⟩;rotate_left
        focus
         conv=>whnf
         intro j
         conv=>whnf
         refine⟨by kernel_rfl,?_⟩
         conv=>whnf
         refine⟨e,?_⟩
         conv=>whnf
         intro F
         conv=>whnf
         refine⟨by kernel_rfl,?_⟩
         conv=>whnf
         refine⟨b,?_⟩
         conv=>whnf
         refine⟨trivial,?_⟩
        rotate_right
        focus
         conv=>whnf
         intro j
         conv=>whnf
         refine⟨?_,?_⟩;rotate_left
         focus
          conv=>whnf
          refine⟨by kernel_rfl,?_⟩
          conv=>whnf
          refine⟨e,?_⟩
          conv=>whnf
          intro F
          conv=>whnf
          refine⟨by kernel_rfl,?_⟩
          conv=>whnf
          refine⟨b,?_⟩
          conv=>whnf
          refine⟨trivial,?_⟩
         rotate_right
         focus
          conv=>whnf
          refine⟨by kernel_rfl,?_⟩
          conv=>whnf
          refine⟨e,?_⟩
          conv=>whnf
          intro F
          conv=>whnf
          refine⟨?_,?_⟩;rotate_left
          focus
           conv=>whnf
           refine⟨by kernel_rfl,?_⟩
           conv=>whnf
           refine⟨b,?_⟩
           conv=>whnf
           refine⟨trivial,?_⟩
          rotate_right
          focus
           conv=>whnf
           refine⟨by kernel_rfl,?_⟩
           conv=>whnf
           refine⟨b,?_⟩
           conv=>whnf
           refine⟨trivial,?_⟩
      rotate_right
      focus
       conv=>whnf
       intro j
       conv=>whnf
       refine⟨?_,?_⟩;rotate_left
       focus
        conv=>whnf
        refine⟨?_,?_⟩;rotate_left
        focus
         conv=>whnf
         refine⟨?_,?_⟩;rotate_left
         focus
          conv=>whnf
          refine⟨by kernel_rfl,?_⟩
          conv=>whnf
          refine⟨e,?_⟩
          conv=>whnf
          intro F
          conv=>whnf
          refine⟨by kernel_rfl,?_⟩
          conv=>whnf
          refine⟨b,?_⟩
          conv=>whnf
          refine⟨trivial,?_⟩
         rotate_right
         focus
          conv=>whnf
          refine⟨by kernel_rfl,?_⟩
          conv=>whnf
          refine⟨e,?_⟩
          conv=>whnf
          intro F
          conv=>whnf
          refine⟨by kernel_rfl,?_⟩
          conv=>whnf
          refine⟨b,?_⟩
          conv=>whnf
          refine⟨trivial,?_⟩
        rotate_right
        focus
         conv=>whnf
         refine⟨?_,?_⟩;rotate_left
         focus
          conv=>whnf
          refine⟨by kernel_rfl,?_⟩
          conv=>whnf
          refine⟨e,?_⟩
          conv=>whnf
          intro F
          conv=>whnf
          refine⟨by kernel_rfl,?_⟩
          conv=>whnf
          refine⟨b,?_⟩
          conv=>whnf
          refine⟨trivial,?_⟩
         rotate_right
         focus
          conv=>whnf
          refine⟨by kernel_rfl,?_⟩
          conv=>whnf
          refine⟨e,?_⟩
          conv=>whnf
          intro F
          conv=>whnf
          refine⟨?_,?_⟩;rotate_left
          focus
           conv=>whnf
           refine⟨by kernel_rfl,?_⟩
           conv=>whnf
           refine⟨b,?_⟩
           conv=>whnf
           refine⟨trivial,?_⟩
          rotate_right
          focus
           conv=>whnf
           refine⟨by kernel_rfl,?_⟩
           conv=>whnf
           refine⟨b,?_⟩
           conv=>whnf
           refine⟨trivial,?_⟩
       rotate_right
       focus
        conv=>whnf
        refine⟨by kernel_rfl,?_⟩
        conv=>whnf
        refine⟨e,?_⟩
        conv=>whnf
        intro F
        conv=>whnf
        refine⟨?_,?_⟩;rotate_left
        focus
         conv=>whnf
         refine⟨by kernel_rfl,?_⟩
         conv=>whnf
         refine⟨b,?_⟩
         conv=>whnf
         refine⟨trivial,?_⟩
        rotate_right
        focus
         conv=>whnf
         refine⟨?_,?_⟩;rotate_left
         focus
          conv=>whnf
          refine⟨by kernel_rfl,?_⟩
          conv=>whnf
          refine⟨b,?_⟩
          conv=>whnf
          refine⟨trivial,?_⟩
         rotate_right
         focus
          conv=>whnf
          refine⟨by kernel_rfl,?_⟩
          conv=>whnf
          refine⟨b,?_⟩
          conv=>whnf
          refine⟨trivial,?_⟩
      all_goals
       iterate 3 ((conv=>whnf);refine⟨by kernel_rfl,?_⟩)
       conv=>whnf
       refine Xt h (λL _ h=>?_)
       iterate 2 ((conv=>whnf);first|intro _|refine⟨by kernel_rfl,?_⟩)
       conv=>whnf
       refine Zro h (λP h=>?_)
       conv=>whnf
       intro _
       conv=>whnf
       refine Xt h (λg _ h=>?_)
       iterate 3 ((conv=>whnf);intro _)
       conv=>whnf
       refine⟨trivial,?_⟩
       conv=>whnf
       cases h;exact J
theorem w83 (p:Sq 86 c68) (Q:Sq 87 c69) (t:Sq 16 c2) (u:Sq 39 c18) (n:Sq 88 c74) (v:Sq 41 c35) (s:Sq 89 c81) (q:Sq 50 c82):Sq 48 c83:=by
 refine Hd Zx (Ze p (Ze Q (Ze t (Ze u (Ze n (Ze v (Ze s (Ze q Zn)))))))) {draws:=[(8,[],.o [2,3,4] (.ld 0 (.alt 1 (.a [5,6,7] (.o [8,9] .done)) (.alt 5 (.alt 1 (.a [6,7] (.o [8,9] .done)) (.a [6,1,7] (.o [8,9] .done))) .done))))]} Tryz.func48 ?_;rintro⟨s0,⟨⟩⟩ K ⟨r,h,k⟩
 change Zbd s0=some r at h
 unfold Zbd at h
 conv=>whnf
 refine Xt h (λ_ _ h=>?_)
 iterate 3 ((conv=>whnf);intro _)
 conv=>whnf
 refine Xt h (λ_ _ h=>?_)
 conv=>whnf
 refine Xt h (λ_ _ h=>?_)
 conv=>whnf
 refine Zdu h (λh=>?_) (λh=>?_)
 conv=>whnf
 refine Xt h (λ_ _ h=>?_)
 iterate 3 ((conv=>whnf);intro _)
 conv=>whnf
 refine Xt h (λL _ h=>?_)
 conv=>whnf
 refine Xt h (λIsBlock0 _ h=>?_)
 conv=>whnf
 refine Zu3 h (λh=>?_) (λh=>?_)
 conv=>whnf
 refine Zdu h (λh=>?_) (λh=>?_)
 conv=>whnf
 refine Xt h (λc _ h=>?_)
 conv=>whnf
 refine Zdu h (λh=>?_) (λh=>?_)
 focus
  conv=>whnf
  refine Xt h (λb _ h=>?_)
  iterate 2 ((conv=>whnf);refine⟨by kernel_rfl,?_⟩)
  conv=>whnf
  obtain⟨l,H,h⟩:=Uv.1 h;refine⟨?_,?_⟩;rotate_left
  focus
   conv=>whnf
   refine⟨by kernel_rfl,?_⟩
   conv=>whnf
   refine⟨_,H,?_⟩
   conv=>whnf
   refine⟨?_,?_⟩;rotate_left
   focus
    conv=>whnf
    refine⟨trivial,?_⟩
   rotate_right
   focus
    conv=>whnf
    refine⟨trivial,?_⟩
  rotate_right
  focus
   conv=>whnf
   refine⟨by kernel_rfl,?_⟩
   conv=>whnf
   refine⟨_,H,?_⟩
   conv=>whnf
   refine⟨trivial,?_⟩
  all_goals
   conv=>whnf
   cases h;exact k
 focus
  iterate 2 ((conv=>whnf);refine⟨by kernel_rfl,?_⟩)
  conv=>whnf
  obtain⟨l,d,h⟩:=Uv.1 h;refine⟨?_,?_⟩;rotate_left
  focus
   conv=>whnf
   refine⟨by kernel_rfl,?_⟩
   conv=>whnf
   refine⟨_,d,?_⟩
   conv=>whnf
   refine⟨?_,?_⟩;rotate_left
   focus
    conv=>whnf
    refine⟨trivial,?_⟩
   rotate_right
   focus
    conv=>whnf
    refine⟨trivial,?_⟩
  rotate_right
  focus
   conv=>whnf
   refine⟨by kernel_rfl,?_⟩
   conv=>whnf
   refine⟨_,d,?_⟩
   conv=>whnf
   refine⟨trivial,?_⟩
  all_goals
   conv=>whnf
   cases h;exact k
 focus
  iterate 2 ((conv=>whnf);refine⟨by kernel_rfl,?_⟩)
  conv=>whnf
  obtain⟨l,e,h⟩:=Uv.1 h;refine⟨?_,?_⟩;rotate_left
  focus
   conv=>whnf
   refine⟨by kernel_rfl,?_⟩
   conv=>whnf
   refine⟨_,e,?_⟩
   conv=>whnf
   refine⟨?_,?_⟩;rotate_left
   focus
    conv=>whnf
    refine⟨trivial,?_⟩
   rotate_right
   focus
    conv=>whnf
    refine⟨trivial,?_⟩
  rotate_right
  focus
   conv=>whnf
   refine⟨by kernel_rfl,?_⟩
   conv=>whnf
   refine⟨_,e,?_⟩
   conv=>whnf
   refine⟨trivial,?_⟩
  all_goals
   conv=>whnf
   cases h;exact k
 focus
  iterate 2 ((conv=>whnf);refine⟨by kernel_rfl,?_⟩)
  conv=>whnf
  obtain⟨l,f,h⟩:=Uv.1 h;refine⟨?_,?_⟩;rotate_left
  focus
   conv=>whnf
   refine⟨by kernel_rfl,?_⟩
   conv=>whnf
   refine⟨_,f,?_⟩
   conv=>whnf
   refine⟨?_,?_⟩;rotate_left
   focus
    conv=>whnf
    refine⟨trivial,?_⟩
   rotate_right
   focus
    conv=>whnf
    refine⟨trivial,?_⟩
  rotate_right
  focus
   conv=>whnf
   refine⟨by kernel_rfl,?_⟩
   conv=>whnf
   refine⟨_,f,?_⟩
   conv=>whnf
   refine⟨trivial,?_⟩
  all_goals
   conv=>whnf
   cases h;exact k
 conv=>whnf
 refine Xt h (λL _ h=>?_)
 conv=>whnf
 refine Xt h (λIsBlock0 _ h=>?_)
 conv=>whnf
 refine Zu3 h (λh=>?_) (λh=>?_)
 conv=>whnf
 refine Zdu h (λh=>?_) (λh=>?_)
 conv=>whnf
 refine Xt h (λc _ h=>?_)
 conv=>whnf
 refine Zdu h (λh=>?_) (λh=>?_)
 focus
  conv=>whnf
  refine Xt h (λb _ h=>?_)
  iterate 2 ((conv=>whnf);refine⟨by kernel_rfl,?_⟩)
  conv=>whnf
  obtain⟨l,g,h⟩:=Uv.1 h;refine⟨?_,?_⟩;rotate_left
  focus
   conv=>whnf
   refine⟨by kernel_rfl,?_⟩
   conv=>whnf
   refine⟨_,g,?_⟩
   conv=>whnf
   refine⟨?_,?_⟩;rotate_left
   focus
    conv=>whnf
    refine⟨trivial,?_⟩
   rotate_right
   focus
    conv=>whnf
    refine⟨trivial,?_⟩
  rotate_right
  focus
   conv=>whnf
   refine⟨by kernel_rfl,?_⟩
   conv=>whnf
   refine⟨_,g,?_⟩
   conv=>whnf
   refine⟨trivial,?_⟩
  all_goals
   conv=>whnf
   cases h;exact k
 focus
  iterate 2 ((conv=>whnf);refine⟨by kernel_rfl,?_⟩)
  conv=>whnf
  obtain⟨l,i,h⟩:=Uv.1 h;refine⟨?_,?_⟩;rotate_left
  focus
   conv=>whnf
   refine⟨by kernel_rfl,?_⟩
   conv=>whnf
   refine⟨_,i,?_⟩
   conv=>whnf
   refine⟨?_,?_⟩;rotate_left
   focus
    conv=>whnf
    refine⟨trivial,?_⟩
   rotate_right
   focus
    conv=>whnf
    refine⟨trivial,?_⟩
  rotate_right
  focus
   conv=>whnf
   refine⟨by kernel_rfl,?_⟩
   conv=>whnf
   refine⟨_,i,?_⟩
   conv=>whnf
   refine⟨trivial,?_⟩
  all_goals
   conv=>whnf
   cases h;exact k
 focus
  iterate 2 ((conv=>whnf);refine⟨by kernel_rfl,?_⟩)
  conv=>whnf
  obtain⟨l,j,h⟩:=Uv.1 h;refine⟨?_,?_⟩;rotate_left
  focus
   conv=>whnf
   refine⟨by kernel_rfl,?_⟩
   conv=>whnf
   refine⟨_,j,?_⟩
   conv=>whnf
   refine⟨?_,?_⟩;rotate_left
   focus
    conv=>whnf
    refine⟨trivial,?_⟩
   rotate_right
   focus
    conv=>whnf
    refine⟨trivial,?_⟩
  rotate_right
  focus
   conv=>whnf
   refine⟨by kernel_rfl,?_⟩
   conv=>whnf
   refine⟨_,j,?_⟩
   conv=>whnf
   refine⟨trivial,?_⟩
  all_goals
   conv=>whnf
   cases h;exact k
 focus
  iterate 2 ((conv=>whnf);refine⟨by kernel_rfl,?_⟩)
  conv=>whnf
  obtain⟨l,m,h⟩:=Uv.1 h;refine⟨?_,?_⟩;rotate_left
  focus
   conv=>whnf
   refine⟨by kernel_rfl,?_⟩
   conv=>whnf
   refine⟨_,m,?_⟩
   conv=>whnf
   refine⟨?_,?_⟩;rotate_left
   focus
    conv=>whnf
    refine⟨trivial,?_⟩
   rotate_right
   focus
    conv=>whnf
    refine⟨trivial,?_⟩
  rotate_right
  focus
   conv=>whnf
   refine⟨by kernel_rfl,?_⟩
   conv=>whnf
   refine⟨_,m,?_⟩
   conv=>whnf
   refine⟨trivial,?_⟩
  all_goals
   conv=>whnf
   cases h;exact k
end Go.Proofs.YtoijdogpgpbddaaGreatDoor
