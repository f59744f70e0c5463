/-
  The functions keep their contracts, if what they call does. Printed by program.
-/
import Derived.Test.YtcjminfjgckdlaaGreatDoorM
import Derived.KernelRfl
namespace Go.Proofs.YtcjminfjgckdlaaGreatDoor
open Go Go.Sx
set_option maxRecDepth 100000
set_option maxHeartbeats 100000000
set_option linter.unusedVariables false
set_option linter.unusedSimpArgs false
structure Ws1:Prop where
 w260:Sq 190 ZIO->Sq 191 ZIS->Sq 117 ZGY->Sq 110 ZIT
 w263:Sq 111 ZuI->Sq 116 ZFM
 w144:Sq 364 ZH4
 w138:Sq 348 ZFH->Sq 202 Ztz->Sq 362 c138
 w148:Sq 348 ZFH->Sq 134 ZDd->Sq 349 ZH5->Sq 320 c148
 w158:Sq 253 c152->Sq 202 Ztz->Sq 188 c157->Sq 225 ZIa
 w155:Sq 226 c154->Sq 273 ZH9
 w267:Sq 45 ZFj->Sq 48 ZDY->Sq 94 ZGR->Sq 50 ZGV->Sq 168 ZGK->Sq 52 ZGW->Sq 107 ZIW
 w240:Sq 310 ZID->Sq 256 ZIE
 w162:Sq 223 ZH7->Sq 224 ZH8->Sq 225 ZIa->Sq 226 c154->Sq 227 ZIb->Sq 164 c162
 w128:Sq 377 c127->Sq 134 ZDd->Sq 372 ZHV
 w250:Sq 47 ZFi->Sq 48 ZDY->Sq 49 ZGO->Sq 50 ZGV->Sq 51 ZIK->Sq 52 ZGW->Sq 15 ZGX
 w217:Sq 327 ZIs->Sq 285 ZFh->Sq 284 ZGS
 w268:Sq 47 ZFi->Sq 48 ZDY->Sq 90 ZGM->Sq 107 ZIW->Sq 43 ZIX
 w276:Sq 186 ZI0->Sq 187 ZI1->Sq 108 ZI2
 w253:Sq 137 c171->Sq 245 ZIN
 w207:Sq 236 c206->Sq 171 ZIp
 w197:Sq 171 c196->Sq 174 ZIl
 w227:Sq 94 ZGR->Sq 95 c226->Sq 96 c183->Sq 38 c227
 w290:Sq 135 ZA3->Sq 60 ZJf->Sq 137 c171->Sq 59 ZJg
 w291:Sq 58 ZJh
 w152:Sq 253 c152
 w121:Sq 122 ZDW
 w288:Sq 88 ZFI->Sq 48 ZDY->Sq 91 ZGN->Sq 92 ZGP->Sq 56 ZJe
 w203:Sq 233 ZIm->Sq 175 c203
 w201:Sq 234 c201
 w273:Sq 135 ZA3->Sq 134 ZDd->Sq 136 ZFG->Sq 57 ZG1
 w215:Sq 353 ZIr->Sq 327 ZIs
 w0:Sq 6 c0
 w293:Sq 19 ZJj
 w257:Sq 248 ZIR
 w256:Sq 247 ZIQ
 w146:Sq 363 c145->Sq 346 c146
 w132:Sq 376 c131->Sq 370 ZHX
 w117:Sq 312 c116->Sq 321 c117
 w235:Sq 309 c234->Sq 308 ZIB
 w202:Sq 234 c201->Sq 233 ZIm
 w131:Sq 371 c130->Sq 376 c131
 w278:Sq 189 ZI3->Sq 242 ZI4
 w194:Sq 173 c194
 w81:Sq 71 c37->Sq 152 c72->Sq 34 c79->Sq 79 c81
 w32:Sq 220 c31->Sq 153 c32
 w26:Sq 369 c25->Sq 131 c23->Sq 358 c26
 w36:Sq 131 c23->Sq 146 c36
 w61:Sq 259 c60->Sq 207 c61
 w96:Sq 293 c96
 w1:Sq 24 c1
 w23:Sq 131 c23
 w25:Sq 131 c23->Sq 369 c25
 w16:Sq 70 c16
 w29:Sq 131 c23->Sq 317 c28->Sq 269 c29
 w10:Sq 215 c8->Sq 216 c9->Sq 144 c10
 w6:Sq 341 c5->Sq 315 c6
 w8:Sq 27 c2->Sq 263 c3->Sq 264 c7->Sq 215 c8
 w68:Sq 70 c16->Sq 316 c67->Sq 267 c68
 w3:Sq 263 c3
 w12:Sq 27 c2->Sq 75 c11->Sq 145 c12
 w14:Sq 72 c13->Sq 77 c14
 w100:Sq 331 c99->Sq 293 c96->Sq 291 ZHJ
 w62:Sq 260 c62
 w58:Sq 205 c58
 w53:Sq 72 c13->Sq 27 c2->Sq 74 c53
 w73:Sq 72 c13->Sq 77 c14->Sq 158 c73
 w88:Sq 183 c88
 w48:Sq 266 c48
 w94:Sq 72 c13->Sq 329 c93->Sq 289 c94
 w102:Sq 289 c94->Sq 290 c97->Sq 292 c98->Sq 291 ZHJ->Sq 294 ZHK->Sq 293 c96->Sq 240 ZHL
 w101:Sq 294 ZHK
 w51:Sq 71 c37->Sq 72 c13->Sq 27 c2->Sq 80 c51
 w107:Sq 185 c107
 w108:Sq 184 ZHO->Sq 185 c107->Sq 104 ZHP
 w285:Sq 133 ZJa->Sq 55 ZJb
set_option maxHeartbeats 100000000 in
theorem ws1:Ws1:=by
 refine ⟨(λq Q b=>G8 Qi (Zd q (Zd Q (Zd b Zm))) {loops:=[(0,[.reg 16 (.dat Iq),.cello 1003 4 (.ol 40 (ZoD))])],draws:=[(1,[],.o [0,1,3,4] (.alt 2 (.alt 5 (.op 6 (.a [7,8] .done)) (.a [7,5] (.op 6 (.d 8)))) (.a [7,2,5] (.op 6 (.d 8))))),(5,[],.o [0,1,2] (.a [3,4,5] (.op 6 (.d 7))))]} Tryz.func110 ?_),
 (λq=>G8 Qi (Zd q Zm) {loops:=[(0,[.reg 13 (.dat Iq),.ent 4 (nat_lit 40) (Dp.pair (Dp.ol (2:Go.TypeId) (Dp.flat (Ty.int IntKind.i64))) (Dp.pair (Dp.ol (2:Go.TypeId) (Dp.flat (Ty.int IntKind.i64))) (Dp.pair (Dp.ol (2:Go.TypeId) (Dp.flat (Ty.int IntKind.i64))) (Dp.pair (Dp.ol (2:Go.TypeId) (Dp.flat (Ty.int IntKind.i64))) (Dp.flat Ty.unit)))))]),(2,[.reg 30 (.dat Iq),.ent 4 (nat_lit 40) (Dp.pair (Dp.ol (2:Go.TypeId) (Dp.flat (Ty.int IntKind.i64))) (Dp.pair (Dp.ol (2:Go.TypeId) (Dp.flat (Ty.int IntKind.i64))) (Dp.pair (Dp.ol (2:Go.TypeId) (Dp.flat (Ty.int IntKind.i64))) (Dp.pair (Dp.ol (2:Go.TypeId) (Dp.flat (Ty.int IntKind.i64))) (Dp.flat Ty.unit)))))])],draws:=[(9,[],.u 0 8 .done),(10,[],.u 0 4 (.u 5 6 (.alt 4 (.a [11,12,13] (.o [14,15] (.d 16))) (.alt 11 (.alt 4 (.a [12,13] (.o [14,15] (.d 16))) (.a [12,4,13] (.o [14,15] (.d 16)))) .done))))]} Tryz.func116 ?_),
 (G8 Zv Zm {} Tryz.func364 ?_),
 (λq Q=>G8 Zv (Zd q (Zd Q Zm)) {} Tryz.func362 ?_),
 (λq Q b=>G8 Zv (Zd q (Zd Q (Zd b Zm))) {loops:=[(0,[.reg 3 (.dat Iq),.reg 9 (.dat Iq)])],draws:=[(10,[],.u 0 7 (.alt 7 (.u 8 6 (.alt 14 (.o [15,16] .done) .done)) .done)),(12,[],.u 0 10 (.alt 10 (.u 11 4 (.op 16 (.a [15,17] (.o [18,19,20] .done)))) .done))]} Tryz.func320 ?_),
 (λQ b q=>G8 Zv (Zd Q (Zd b (Zd q Zm))) {draws:=[(1,[],.u 0 4 (.alt 4 (.op 5 (.alt 6 (.u 7 18 (.alt 25 (.o [26,27,28] .done) .done)) .done)) .done))]} Tryz.func225 ?_),
 (λq=>G8 Zv (Zd q Zm) {} Tryz.func273 ?_),
 (λc f Q q b j=>G8 Zv (Zd c (Zd f (Zd Q (Zd q (Zd b (Zd j Zm)))))) {loops:=[(0,[.reg 23 (.dat Iq),.ent 9 (nat_lit 4) (.flat Ty.bool),.ent 10 (nat_lit 85) (.flat ZaA),.ent 11 (nat_lit 85) (.flat ZaA)])],draws:=[(8,[],.u 0 4 (.o [5,6] (.u 8 17 (.l [4,7] (.alt 25 (.op 26 (.alt 27 (.op 28 (.d 29)) .done)) .done)))))]} Tryz.func107 ?_),
 (λq=>G8 Zv (Zd q Zm) {} Tryz.func256 ?_),
 (λf b Q c q=>G8 Zv (Zd f (Zd b (Zd Q (Zd c (Zd q Zm))))) {loops:=[(0,[.reg 25 (.dat Iq),.ent 2 (nat_lit 3) (.flat Zrl.ety)]),(2,[.reg 51 (.dat Iq),.ent 2 (nat_lit 3) (.flat Zrl.ety)])]} Tryz.func164 ?_),
 (λQ q=>G8 Zv (Zd Q (Zd q Zm)) {} Tryz.func372 ?_),
 (λc f b Q q j=>G8 Zv (Zd c (Zd f (Zd b (Zd Q (Zd q (Zd j Zm)))))) {loops:=[(0,[.reg 33 (.dat Iq),.ent 3 (nat_lit 87) (.flat XQ)])]} Tryz.func15 ?_),
 (λq Q=>G8 Zv (Zd q (Zd Q Zm)) {loops:=[(0,[.reg 13 (.dat Iq),.reg 34 (.dat Iq)]),(2,[.reg 13 (.dat Iq),.reg 40 (.dat Iq)])],draws:=[(10,[],.u 0 22 .done)]} Tryz.func284 ?_),
 (λb c Q q=>G8 Zv (Zd b (Zd c (Zd Q (Zd q Zm)))) {draws:=[(4,[],.o [0,2] (.a [1,3] (.op 4 .done)))]} Tryz.func43 ?_),
 (λQ q=>G8 Zv (Zd Q (Zd q Zm)) {draws:=[(1,[],.o [0,1,3,4,6,7] (.a [2,5,8] (.op 9 (.d 10))))]} Tryz.func108 ?_),
 (λq=>G8 Qi (Zd q Zm) {loops:=[(0,[.reg 3 (.own (.ol 336 (Zj7))),.reg 8 (.dat Iq)])],draws:=[(5,[],.o [0,1,2,4,5,7,8] (.a [3,6,9] (.op 10 (.a [11,12] (.op 13 .done)))))]} Tryz.func245 ?_),
 (λq=>G8 Zv (Zd q Zm) {loops:=[(0,[.reg 5 (.own (.ol 2 (.flat Iq))),.reg 16 (.dat Iq)])]} Tryz.func171 ?_),
 (λq=>G8 Zv (Zd q Zm) {} Tryz.func174 ?_),
 (λQ q b=>G8 Zv (Zd Q (Zd q (Zd b Zm))) {loops:=[(0,[.reg 22 (.dat Iq),.cello 1008 0 (.ol 4 (.flat (.bool))),.cello 1008 1 (.ol 85 (.flat (ZaA))),.cello 1008 2 (.ol 85 (.flat (ZaA))),.ent 2 (nat_lit 4) (.flat Ty.bool),.ent 3 (nat_lit 85) (.flat ZaA),.ent 4 (nat_lit 85) (.flat ZaA)])],draws:=[(8,[],.u 0 4 (.o [5,6,8,9,10,12,14] (.l [4,7,11,13] (.alt 15 (.op 16 (.alt 17 (.op 18 (.d 19)) .done)) .done))))]} Tryz.func38 ?_),
 (λQ b q=>G8 ZEQ (Zd Q (Zd b (Zd q Zm))) {loops:=[(0,[.reg 29 (.dat Iq),.ent 0 (nat_lit 38) (Dp.ol (2:Go.TypeId) (Dp.flat (Ty.int IntKind.i64)))]),(2,[.reg 13 (.own (.ol 2 (.flat Iq))),.ent 0 (nat_lit 38) (Dp.ol (2:Go.TypeId) (Dp.flat (Ty.int IntKind.i64))),.ent 1 (nat_lit 4) (.flat ZE1.ety)])]} Tryz.func59 ?_),
 (G8 Zv Zm {loops:=[(0,[.reg 3 (.own (.ol 2 (.flat Iq))),.reg 8 (.dat Iq)])]} Tryz.func58 ?_),
 (G8 Zv Zm {} Tryz.func253 ?_),
 (G8 Zv Zm {} Tryz.func122 ?_),
 (λb c q Q=>G8 Zv (Zd b (Zd c (Zd q (Zd Q Zm)))) {} Tryz.func56 ?_),
 (λq=>G8 Zv (Zd q Zm) {} Tryz.func175 ?_),
 (G8 Zv Zm {} Tryz.func234 ?_),
 (λQ b q=>G8 Zv (Zd Q (Zd b (Zd q Zm))) {} Tryz.func57 ?_),
 (λq=>G8 Zv (Zd q Zm) {draws:=[(1,[],.u 0 13 .done),(5,[],.u 0 18 (.u 19 10 (.alt 18 (.o [29,30] .done) .done)))]} Tryz.func327 ?_),
 (G8 Zv Zm {} Tryz.func6 ?_),
 (G8 Zv Zm {loops:=[(0,[.reg 5 (.dat Iq)])]} Tryz.func19 ?_),
 (G8 Zv Zm {} Tryz.func248 ?_),
 (G8 Zv Zm {} Tryz.func247 ?_),
 (λq=>G8 Zv (Zd q Zm) {} Tryz.func346 ?_),
 (λq=>G8 Zv (Zd q Zm) {} Tryz.func370 ?_),
 (λq=>G8 Zv (Zd q Zm) {} Tryz.func321 ?_),
 (λq=>G8 Zv (Zd q Zm) {loops:=[(0,[.reg 17 (.dat Iq)])]} Tryz.func308 ?_),
 (λq=>G8 Zv (Zd q Zm) {loops:=[(0,[.reg 8 (.dat Iq)])]} Tryz.func233 ?_),
 (λq=>G8 Zv (Zd q Zm) {loops:=[(0,[.reg 8 (.dat Iq)])]} Tryz.func376 ?_),
 (λq=>G8 Zv (Zd q Zm) {loops:=[(0,[.reg 8 (.dat Iq)])]} Tryz.func242 ?_),
 (G8 Zv Zm {loops:=[(0,[.reg 8 (.dat Iq)])]} Tryz.func173 ?_),
 (λQ b q=>G8 Qi (Zd Q (Zd b (Zd q Zm))) {loops:=[(0,[.reg 8 (.dat Iq),.cello 1004 0 (.ol 177 (Zsg)),.cello 1004 1 (.ol 142 (Zhy)),.cello 1004 2 (.ol 9 (.flat (.str))),.cello 1004 3 (.ol 136 (.flat (Zo6))),.cello 1004 4 (.ol 40 (ZoD)),.cello 1007 0 (.ol (nat_lit 177) (Dp.pair (Dp.flat Ty.str) (Dp.pair (Dp.flat (Ty.int IntKind.i64)) (Dp.pair (Dp.ol (302:Go.TypeId) (Dp.flat ZmU)) (Dp.pair (Dp.ol (180:Go.TypeId) ZDh) (Dp.pair (Dp.ol (2:Go.TypeId) (Dp.flat (Ty.int IntKind.i64))) (Dp.pair (Dp.flat (Ty.int IntKind.i64)) (Dp.pair (Dp.flat (Ty.int IntKind.i64)) (Dp.flat Ty.unit))))))))),.cello 1007 1 (.ol (nat_lit 142) (Dp.pair (Dp.flat Ty.str) (Dp.pair (Dp.flat (Ty.int IntKind.i64)) (Dp.pair (Dp.ol (2:Go.TypeId) (Dp.flat (Ty.int IntKind.i64))) (Dp.flat Ty.unit))))),.cello 1007 2 (.ol (nat_lit 9) (.flat Ty.str)),.cello 1007 3 (.ol (nat_lit 136) (.flat Zo6)),.cello 1007 4 (.ol (nat_lit 40) (Dp.pair (Dp.ol (2:Go.TypeId) (Dp.flat (Ty.int IntKind.i64))) (Dp.pair (Dp.ol (2:Go.TypeId) (Dp.flat (Ty.int IntKind.i64))) (Dp.pair (Dp.ol (2:Go.TypeId) (Dp.flat (Ty.int IntKind.i64))) (Dp.pair (Dp.ol (2:Go.TypeId) (Dp.flat (Ty.int IntKind.i64))) (Dp.flat Ty.unit))))))])],draws:=[(9,[],.u 0 5 (.alt 5 (.o [6,7,8] (.a [9,10] (.op 11 .done))) (.a [9,5] (.o [6,7,8] (.alt 10 (.op 11 .done) .done)))))]} Tryz.func79 ?_),
 (λq=>G8 Zv (Zd q Zm) {loops:=[(0,[.reg 3 (.dat Iq)]),(2,[.reg 4 (.dat Iq)])],draws:=[(9,[],.u 0 13 .done)]} Tryz.func153 ?_),
 (λq Q=>G8 Zv (Zd q (Zd Q Zm)) {loops:=[(0,[.reg 3 (.dat Iq)])]} Tryz.func358 ?_),
 (λq=>G8 Zv (Zd q Zm) {loops:=[(0,[.reg 6 (.dat Iq)]),(2,[.reg 7 (.dat Iq)])]} Tryz.func146 ?_),
 (λq=>G8 Zv (Zd q Zm) {} Tryz.func207 ?_),
 (G8 Zv Zm {} Tryz.func293 ?_),
 (G8 Zv Zm {loops:=[(0,[.reg 4 (.dat Iq),.cell 1007 2 Iq])],draws:=[(5,[],.u 0 10 (.alt 10 (.u 11 4 (.d 15)) .done))]} Tryz.func24 ?_),
 (G8 Zv Zm {} Tryz.func131 ?_),
 (λq=>G8 Zv (Zd q Zm) {loops:=[(0,[.reg 3 (.dat Iq)])],draws:=[(4,[],.u 0 4 (.alt 4 (.u 5 17 .done) .done))]} Tryz.func369 ?_),
 (G8 Zv Zm {} Tryz.func70 ?_),
 (λQ q=>G8 Zv (Zd Q (Zd q Zm)) {} Tryz.func269 ?_),
 (λQ q=>G8 Qi (Zd Q (Zd q Zm)) {} Tryz.func144 ?_),
 (λq=>G8 Qi (Zd q Zm) {draws:=[(2,[],.o [1,2] (.ld 0 (.a [3,4] (.op 5 .done))))]} Tryz.func315 ?_),
 (λb Q q=>G8 Qi (Zd b (Zd Q (Zd q Zm))) {loops:=[(0,[.reg 9 (.own (.ol 302 (.flat (ZmU)))),.reg 10 (.dat Iq),.cell 1000 0 (.sl (.int .u8)),.cell 1000 1 Iq,.cell 1000 2 Iq]),(2,[.reg 12 (.own (.ol 180 (ZDh))),.reg 13 (.dat Iq),.cell 1000 0 (.sl (.int .u8)),.cell 1000 1 Iq,.cell 1000 2 Iq])],draws:=[(7,[],.u 0 5 (.op 6 (.alt 5 (.alt 7 (.o [8,9] (.a [10,11] (.op 12 .done))) .done) (.alt 7 (.op 8 (.alt 5 (.op 9 (.a [10,11] (.op 12 .done))) .done)) .done))))]} Tryz.func215 ?_),
 (λQ q=>G8 Qi (Zd Q (Zd q Zm)) {loops:=[(0,[.reg 4 (.dat Iq),.cello 1003 3 (.ol 180 (ZDh))])],draws:=[(1,[],.o [0,2,5,6,8,11,13] (.l [1,3,9,12,14] (.alt 4 (.alt 7 (.alt 10 (.op 15 (.a [16,17] .done)) (.a [16,10] (.op 15 (.d 17)))) (.a [16,7,10] (.op 15 (.d 17)))) (.a [16,4,7,10] (.op 15 (.d 17))))))]} Tryz.func267 ?_),
 (G8 Zv Zm {loops:=[(0,[.reg 5 (.dat (.bool)),.reg 6 (.dat (.bool)),.reg 8 (.dat Iq)])],draws:=[(7,[],.u 0 17 .done),(8,[],.u 0 17 .done)]} Tryz.func263 ?_),
 (λQ q=>G8 Qi (Zd Q (Zd q Zm)) {loops:=[(0,[.reg 9 (.own (.ol 142 (Zhy))),.reg 10 (.own (.ol 9 (.flat (.str)))),.reg 11 (.dat Iq),.cell 1000 0 (.sl (.int .u8)),.cell 1000 1 Iq,.cell 1000 2 Iq]),(2,[.reg 14 (.dat Iq),.cell 1000 0 (.sl (.int .u8)),.cell 1000 1 Iq,.cell 1000 2 Iq,.cello 1013 2 (.ol 2 (.flat Iq))]),(4,[.reg 16 (.dat Iq),.cell 1000 0 (.sl (.int .u8)),.cell 1000 1 Iq,.cell 1000 2 Iq,.ent 9 (nat_lit 142) (Dp.pair (Dp.flat Ty.str) (Dp.pair (Dp.flat (Ty.int IntKind.i64)) (Dp.pair (Dp.ol (2:Go.TypeId) (Dp.flat (Ty.int IntKind.i64))) (Dp.flat Ty.unit))))])],draws:=[(27,[],.u 0 4 (.u 5 4 (.alt 4 (.alt 9 (.o [10,11] (.d 12)) .done) (.alt 9 (.op 10 (.alt 4 (.op 11 (.d 12)) .done)) .done))))]} Tryz.func145 ?_),
 (λq=>G8 Zv (Zd q Zm) {loops:=[(0,[.reg 5 (.own (.ol 2 (.flat Iq))),.reg 7 (.dat Iq)])]} Tryz.func77 ?_),
 (λq Q=>G8 Zv (Zd q (Zd Q Zm)) {loops:=[(0,[.reg 8 (.own (.ol 2 (.flat Iq))),.reg 9 (.dat Iq)])]} Tryz.func291 ?_),
 (G8 Zv Zm {} Tryz.func260 ?_),
 (G8 Zv Zm {} Tryz.func205 ?_),
 (λq Q=>G8 Zv (Zd q (Zd Q Zm)) {loops:=[(0,[.reg 6 (.dat Iq),.reg 7 (.dat Iq)])]} Tryz.func74 ?_),
 (λq Q=>G8 Zv (Zd q (Zd Q Zm)) {loops:=[(0,[.reg 4 (.dat Iq),.ent 2 (nat_lit 2) (.flat Zye.ety)]),(2,[.reg 6 (.dat Iq),.ent 2 (nat_lit 2) (.flat Zye.ety)])],draws:=[(9,[],.u 0 15 (.d 15))]} Tryz.func158 ?_),
 (G8 Zv Zm {loops:=[(0,[.reg 8 (.own (.ol 2 (.flat Iq))),.ent 1 (nat_lit 4) (.flat Zyf.ety)]),(2,[.reg 11 (.dat Iq),.ent 3 (nat_lit 4) (.flat Zyf.ety)]),(4,[.reg 12 (.dat Iq)])]} Tryz.func183 ?_),
 (G8 Zv Zm {loops:=[(0,[.reg 7 (.dat Iq)])]} Tryz.func266 ?_),
 (λq Q=>G8 Zv (Zd q (Zd Q Zm)) {draws:=[(1,[],.o [0,1,3,4,5] (.alt 2 (.o [6,7] (.a [8,9] .done)) (.a [8,2] (.o [6,7] (.d 9))))),(2,[],.u 0 21 (.alt 21 (.op 22 (.alt 23 (.alt 24 (.op 25 .done) .done) (.a [24,23] (.op 25 .done)))) .done))]} Tryz.func289 ?_),
 (λc b f q Q j=>G8 Zv (Zd c (Zd b (Zd f (Zd q (Zd Q (Zd j Zm)))))) {draws:=[(5,[],.o [0,1,2,4,6,7] (.a [3,5] (.o [8,9,10] .done)))]} Tryz.func240 ?_),
 (G8 Zv Zm {} Tryz.func294 ?_),
 (λQ q b=>G8 Zv (Zd Q (Zd q (Zd b Zm))) {loops:=[(0,[.reg 5 (.own (.ol 87 (.flat (XQ)))),.reg 7 (.dat Iq),.cell 0 0 (.sl (.int .u8)),.cell 0 1 Iq,.cell 0 2 Iq]),(2,[.reg 5 (.own (.ol 87 (.flat (XQ)))),.reg 9 (.dat Iq),.cell 0 0 (.sl (.int .u8)),.cell 0 1 Iq,.cell 0 2 Iq])]} Tryz.func80 ?_),
 (G8 Zv Zm {} Tryz.func185 ?_),
 (λq Q=>G8 Zv (Zd q (Zd Q Zm)) {loops:=[(0,[.reg 16 (.dat (.bool)),.reg 18 (.dat Iq),.cell 1017 0 Iq,.cell 1017 1 Iq,.cell 1017 2 Iq,.cell 1017 3 Iq,.cell 1017 4 Iq]),(2,[.reg 16 (.dat (.bool)),.reg 19 (.dat Iq),.cell 1017 0 Iq,.cell 1017 1 Iq,.cell 1017 2 Iq,.cell 1017 3 Iq,.cell 1017 4 Iq])],draws:=[(14,[],.u 0 9 (.alt 9 (.o [10,11,12] (.alt 13 (.a [14,15,16] .done) (.a [14,13,15,16] .done))) (.alt 13 (.alt 9 (.o [10,11,12] (.a [14,15,16] .done)) (.a [14,9] (.o [10,11,12] (.a [15,16] .done)))) (.alt 14 (.alt 9 (.o [10,11,12] (.a [13,15,16] .done)) (.a [13,9] (.o [10,11,12] (.a [15,16] .done)))) .done)))),(15,[],.u 0 21 (.a [21,22] .done)),(21,[],.o [0,1,2] (.d 3))]} Tryz.func104 ?_),
 (λq=>G8 Zv (Zd q Zm) {loops:=[(0,[.reg 9 (.own (.ol 87 (.flat (XQ)))),.reg 10 (.dat Iq)])]} Tryz.func55 ?_)⟩
 all_goals
  intro a;repeat rcases a with⟨_,a⟩
  rintro K ⟨r,h,k⟩;repeat'
    conv=>whnf
    first
    |with_reducible refine ZhV ?_
    |with_reducible refine Zj0 (by assumption) (by assumption) (by assumption) ?_
    |with_reducible refine Z6 (by assumption) ?_
    |with_reducible refine Zj9 (by assumption) ?_
    |(with_reducible refine shD ?_);first|refine ZhT h (λh=>?_) (λh=>?_)|refine ZCW h (λh=>?_) (λh=>?_)
    |(with_reducible refine ZCi ?_);first|refine ZDG ?_|refine ZqR ?_
    |(with_reducible refine ZHj ?_);first|refine Zx6 h (λh=>?_) (λh=>?_)|refine ZCV h (λh=>?_) (λh=>?_)
    |(with_reducible refine ZCh ?_);(refine⟨λN=>?_,?_⟩)<;>try subst N
    |(with_reducible refine ZHl ?_);first|with_reducible refine Xu h (λx H h=>?_)|refine Zj9 (by assumption) ?_|with_reducible refine pG h (λg h=>?_)|with_reducible refine pA h (λx n H i h=>?_)|with_reducible refine pB h (λx H h=>?_)|refine Xu h (λx H h=>?_)
    |(with_reducible refine ZHi ?_);first|with_reducible refine vAt h (λx n H i h=>?_)|refine Zj0 (by assumption) (by assumption) (by assumption) ?_|with_reducible refine pG h (λg h=>?_)|with_reducible refine pA h (λx n H i h=>?_)|with_reducible refine pB h (λx H h=>?_)|refine vAt h (λx n H i h=>?_)
    |(with_reducible refine ZCg ?_);first|with_reducible refine ZuD h (λx H h=>?_)|refine Z6 (by assumption) ?_|with_reducible refine pG h (λg h=>?_)|with_reducible refine pA h (λx n H i h=>?_)|with_reducible refine pB h (λx H h=>?_)|refine ZuD h (λx H h=>?_)
    |with_reducible refine ZHk ?_
    |(with_reducible refine Zw0 ?_);refine Zw9 h k ?_;clear h k;intro I μ v r h k;(repeat rcases v with⟨_,v⟩);(try dsimp only at h)
    |with_reducible refine⟨by assumption,?_⟩
    |with_reducible refine orL ?_
    |with_reducible refine .inr ?_
    |(with_reducible refine ZCj ?_);first|refine⟨?_,True.intro⟩|refine⟨?_,?_⟩
    |refine⟨by kernel_rfl,?_⟩
    |refine⟨by decide,?_⟩
    |with_reducible refine ZrX h (λg h=>?_)
    |intro p
    |exact trivial
    |with_reducible exact ZBi h
    |(refine pS h (λe=>?_));subst e;(repeat (first|exact k|exact⟨⟨rfl,rfl⟩,k.1 _ rfl⟩|(refine pR k (λe k=>?_));subst e));done
    |refine ZrX h (λg h=>?_)
    |refine⟨by assumption,?_⟩
    |with_reducible refine pG h (λg h=>?_)|with_reducible refine pA h (λx n H i h=>?_)|with_reducible refine pB h (λx H h=>?_)
    |refine pG h (λg h=>?_)
    |fail
theorem ZM0 (Q:Sq 47 ZFi) (q:Sq 46 ZG0):Sq 17 ZJd:=by
 refine G8 Zv (Zd Q (Zd q Zm)) {} Tryz.func17 ?_;rintro⟨b0,E,⟨⟩⟩ K ⟨r,h,k⟩
 change Zap b0 E=some r at h
 unfold Zap at h
 conv=>whnf
 refine Xu h (λ_ _ h=>?_)
 conv=>whnf
 refine ZqR ?_;refine ZhT h (λh=>?_) (λh=>?_)
 conv=>whnf
 refine Xu h (λ_ _ h=>?_)
 conv=>whnf
 cases h;exact k
 conv=>whnf
 cases h;exact k
theorem ZMX:Sq 196 ZIZ:=by
 refine G8 Zv Zm {loops:=[(0,[.reg 8 (.dat Iq)])]} Tryz.func196 ?_;rintro⟨s0,v0,⟨⟩⟩ K ⟨r,h,k⟩
 change Xz s0 v0=some r at h
 unfold Xz at h
 conv=>whnf
 refine ZvU h ?_;rintro I0 a ⟨v1,⟨⟩⟩ z h A H
 change Yv s0 v0 v1=some z at h
 unfold Yv at h
 conv=>whnf
 refine ZhT h (λh=>?_) (λh=>?_)
 conv=>whnf
 refine vAt h (λX d e f h=>?_)
 conv=>whnf
 refine ZhT h (λh=>?_) (λh=>?_)
 conv=>whnf
 cases h;obtain rfl:=H _ rfl;exact k
 conv=>whnf
 cases h;exact⟨⟨rfl,rfl⟩,A _ rfl⟩
 conv=>whnf
 cases h;obtain rfl:=H _ rfl;exact k
theorem w21 (q:Sq 27 c2):Sq 149 c21:=by
 refine G8 Zv (Zd q Zm) {draws:=[(1,[],.o [1,5,9] (.alt 0 (.alt 2 (.op 3 (.alt 4 (.alt 6 (.o [7,8] (.alt 10 (.o [11,12,13] (.a [14,15] .done)) (.a [14,10] (.o [11,12,13] (.d 15))))) (.a [14,6] (.o [7,8] (.alt 10 (.o [11,12,13] (.d 15)) .done)))) (.alt 6 (.o [7,8] (.alt 4 (.alt 10 (.o [11,12,13] (.a [14,15] .done)) (.a [14,10] (.o [11,12,13] (.d 15)))) (.alt 10 (.o [11,12] (.alt 4 (.op 13 (.a [14,15] .done)) (.a [14,4] (.op 13 (.d 15))))) (.alt 14 (.alt 4 (.alt 10 (.o [11,12,13] (.d 15)) .done) (.alt 10 (.o [11,12] (.alt 4 (.op 13 (.d 15)) .done)) .done)) .done)))) (.alt 14 (.alt 4 (.alt 6 (.o [7,8] (.alt 10 (.o [11,12,13] (.d 15)) .done)) .done) (.alt 6 (.o [7,8] (.alt 4 (.alt 10 (.o [11,12,13] (.d 15)) .done) (.alt 10 (.o [11,12] (.alt 4 (.op 13 (.d 15)) .done)) .done))) .done)) .done)))) (.a [14,2] (.op 3 (.alt 4 (.alt 6 (.o [7,8] (.alt 10 (.o [11,12,13] (.d 15)) .done)) .done) (.alt 6 (.o [7,8] (.alt 4 (.alt 10 (.o [11,12,13] (.d 15)) .done) (.alt 10 (.o [11,12] (.alt 4 (.op 13 (.d 15)) .done)) .done))) .done))))) (.alt 2 (.alt 0 (.op 3 (.alt 4 (.alt 6 (.o [7,8] (.alt 10 (.o [11,12,13] (.a [14,15] .done)) (.a [14,10] (.o [11,12,13] (.d 15))))) (.a [14,6] (.o [7,8] (.alt 10 (.o [11,12,13] (.d 15)) .done)))) (.alt 6 (.o [7,8] (.alt 4 (.alt 10 (.o [11,12,13] (.a [14,15] .done)) (.a [14,10] (.o [11,12,13] (.d 15)))) (.alt 10 (.o [11,12] (.alt 4 (.op 13 (.a [14,15] .done)) (.a [14,4] (.op 13 (.d 15))))) (.alt 14 (.alt 4 (.alt 10 (.o [11,12,13] (.d 15)) .done) (.alt 10 (.o [11,12] (.alt 4 (.op 13 (.d 15)) .done)) .done)) .done)))) (.alt 14 (.alt 4 (.alt 6 (.o [7,8] (.alt 10 (.o [11,12,13] (.d 15)) .done)) .done) (.alt 6 (.o [7,8] (.alt 4 (.alt 10 (.o [11,12,13] (.d 15)) .done) (.alt 10 (.o [11,12] (.alt 4 (.op 13 (.d 15)) .done)) .done))) .done)) .done)))) (.alt 6 (.o [7,8] (.alt 0 (.op 3 (.alt 4 (.alt 10 (.o [11,12,13] (.a [14,15] .done)) (.a [14,10] (.o [11,12,13] (.d 15)))) (.alt 10 (.o [11,12] (.alt 4 (.op 13 (.a [14,15] .done)) (.a [14,4] (.op 13 (.d 15))))) (.alt 14 (.alt 4 (.alt 10 (.o [11,12,13] (.d 15)) .done) (.alt 10 (.o [11,12] (.alt 4 (.op 13 (.d 15)) .done)) .done)) .done)))) (.alt 10 (.o [11,12] (.alt 0 (.op 3 (.alt 4 (.op 13 (.a [14,15] .done)) (.a [14,4] (.op 13 (.d 15))))) (.a [14,0] (.op 3 (.alt 4 (.op 13 (.d 15)) .done))))) (.alt 14 (.alt 0 (.op 3 (.alt 4 (.alt 10 (.o [11,12,13] (.d 15)) .done) (.alt 10 (.o [11,12] (.alt 4 (.op 13 (.d 15)) .done)) .done))) (.alt 10 (.o [11,12] (.alt 0 (.op 3 (.alt 4 (.op 13 (.d 15)) .done)) .done)) .done)) .done)))) (.alt 14 (.alt 0 (.op 3 (.alt 4 (.alt 6 (.o [7,8] (.alt 10 (.o [11,12,13] (.d 15)) .done)) .done) (.alt 6 (.o [7,8] (.alt 4 (.alt 10 (.o [11,12,13] (.d 15)) .done) (.alt 10 (.o [11,12] (.alt 4 (.op 13 (.d 15)) .done)) .done))) .done))) (.alt 6 (.o [7,8] (.alt 0 (.op 3 (.alt 4 (.alt 10 (.o [11,12,13] (.d 15)) .done) (.alt 10 (.o [11,12] (.alt 4 (.op 13 (.d 15)) .done)) .done))) (.alt 10 (.o [11,12] (.alt 0 (.op 3 (.alt 4 (.op 13 (.d 15)) .done)) .done)) .done))) .done)) .done))) (.alt 14 (.alt 0 (.alt 2 (.op 3 (.alt 4 (.alt 6 (.o [7,8] (.alt 10 (.o [11,12,13] (.d 15)) .done)) .done) (.alt 6 (.o [7,8] (.alt 4 (.alt 10 (.o [11,12,13] (.d 15)) .done) (.alt 10 (.o [11,12] (.alt 4 (.op 13 (.d 15)) .done)) .done))) .done))) .done) (.alt 2 (.alt 0 (.op 3 (.alt 4 (.alt 6 (.o [7,8] (.alt 10 (.o [11,12,13] (.d 15)) .done)) .done) (.alt 6 (.o [7,8] (.alt 4 (.alt 10 (.o [11,12,13] (.d 15)) .done) (.alt 10 (.o [11,12] (.alt 4 (.op 13 (.d 15)) .done)) .done))) .done))) (.alt 6 (.o [7,8] (.alt 0 (.op 3 (.alt 4 (.alt 10 (.o [11,12,13] (.d 15)) .done) (.alt 10 (.o [11,12] (.alt 4 (.op 13 (.d 15)) .done)) .done))) (.alt 10 (.o [11,12] (.alt 0 (.op 3 (.alt 4 (.op 13 (.d 15)) .done)) .done)) .done))) .done)) .done)) .done)))),(2,[],.o [0,2] (.ld 1 (.alt 3 (.o [4,5,6] (.d 7)) .done))),(3,[],.o [0,2] (.ld 1 (.alt 3 (.o [4,5,6] (.d 7)) .done)))]} Tryz.func149 ?_;rintro⟨s0,⟨⟩⟩ K ⟨r,h,k⟩
 change JH s0=some r at h
 unfold JH at h
 focus
  conv=>whnf
  refine⟨by kernel_rfl,?_⟩
  conv=>whnf
  obtain⟨L,c,h⟩:=UE.1 h;obtain⟨X,H,e,f,h⟩:=atE h;obtain⟨g,m,h⟩:=UE.1 h;obtain⟨i,b,h⟩:=UE.1 h;refine⟨?_,?_⟩;rotate_left
  focus
   conv=>whnf
   refine⟨?_,?_⟩;rotate_left
   focus
    conv=>whnf
    refine⟨?_,?_⟩;rotate_left
    focus
     conv=>whnf
     refine⟨_,c,?_⟩
     conv=>whnf
     refine⟨?_,?_⟩;rotate_left
     focus
      conv=>whnf
      refine⟨_,m,?_⟩
      conv=>whnf
      refine⟨?_,?_⟩;rotate_left
      focus
       conv=>whnf
       refine⟨_,b,?_⟩
       conv=>whnf
       refine⟨H,e,Z6 f ?_⟩
       conv=>whnf
       refine⟨by kernel_rfl,?_⟩
       conv=>whnf
       refine⟨H,e,Z6 f ?_⟩
       conv=>whnf
       refine⟨trivial,?_⟩
      rotate_right
      focus
       conv=>whnf
       refine⟨H,e,Z6 f ?_⟩
       conv=>whnf
       refine⟨?_,?_⟩;rotate_left
       focus
        conv=>whnf
        refine⟨_,b,?_⟩
        conv=>whnf
        refine⟨by kernel_rfl,?_⟩
        conv=>whnf
        refine⟨H,e,Z6 f ?_⟩
        conv=>whnf
        refine⟨trivial,?_⟩
       rotate_right
       focus
        conv=>whnf
        refine⟨by kernel_rfl,?_⟩
        conv=>whnf
        refine⟨H,e,Z6 f ?_⟩
        conv=>whnf
        refine⟨_,b,?_⟩
        conv=>whnf
        refine⟨trivial,?_⟩
     rotate_right
     focus
      conv=>whnf
      refine⟨H,e,Z6 f ?_⟩
      conv=>whnf
      refine⟨?_,?_⟩;rotate_left
      focus
       conv=>whnf
       refine⟨_,m,?_⟩
       conv=>whnf
       refine⟨?_,?_⟩;rotate_left
       focus
        conv=>whnf
        refine⟨_,b,?_⟩
        conv=>whnf
        refine⟨by kernel_rfl,?_⟩
        conv=>whnf
        refine⟨H,e,Z6 f ?_⟩
        conv=>whnf
        refine⟨trivial,?_⟩
       rotate_right
       focus
        conv=>whnf
        refine⟨by kernel_rfl,?_⟩
        conv=>whnf
        refine⟨H,e,Z6 f ?_⟩
        conv=>whnf
        refine⟨_,b,?_⟩
        conv=>whnf
        refine⟨trivial,?_⟩
      rotate_right
      focus
       conv=>whnf
       refine⟨by kernel_rfl,?_⟩
       conv=>whnf
       refine⟨H,e,Z6 f ?_⟩
       conv=>whnf
       refine⟨_,m,?_⟩
       conv=>whnf
       refine⟨_,b,?_⟩
       conv=>whnf
       refine⟨trivial,?_⟩
    rotate_right
    focus
     conv=>whnf
     refine⟨_,c,?_⟩
     conv=>whnf
     refine⟨H,e,Z6 f ?_⟩
     conv=>whnf
     refine⟨?_,?_⟩;rotate_left
     focus
      conv=>whnf
      refine⟨_,m,?_⟩
      conv=>whnf
      refine⟨?_,?_⟩;rotate_left
      focus
       conv=>whnf
       refine⟨_,b,?_⟩
       conv=>whnf
       refine⟨by kernel_rfl,?_⟩
       conv=>whnf
       refine⟨H,e,Z6 f ?_⟩
       conv=>whnf
       refine⟨trivial,?_⟩
      rotate_right
      focus
       conv=>whnf
       refine⟨by kernel_rfl,?_⟩
       conv=>whnf
       refine⟨H,e,Z6 f ?_⟩
       conv=>whnf
       refine⟨_,b,?_⟩
       conv=>whnf
       refine⟨trivial,?_⟩
     rotate_right
     focus
      conv=>whnf
      refine⟨by kernel_rfl,?_⟩
      conv=>whnf
      refine⟨H,e,Z6 f ?_⟩
      conv=>whnf
      refine⟨_,m,?_⟩
      conv=>whnf
      refine⟨_,b,?_⟩
      conv=>whnf
      refine⟨trivial,?_⟩
   rotate_right
   focus
    conv=>whnf
    refine⟨_,c,?_⟩
    conv=>whnf
    refine⟨?_,?_⟩;rotate_left
    focus
     conv=>whnf
     refine⟨?_,?_⟩;rotate_left
     focus
      conv=>whnf
      refine⟨?_,?_⟩;rotate_left
      focus
       conv=>whnf
       refine⟨_,m,?_⟩
       conv=>whnf
       refine⟨?_,?_⟩;rotate_left
       focus
        conv=>whnf
        refine⟨_,b,?_⟩
        conv=>whnf
        refine⟨H,e,Z6 f ?_⟩
        conv=>whnf
        refine⟨by kernel_rfl,?_⟩
        conv=>whnf
        refine⟨H,e,Z6 f ?_⟩
        conv=>whnf
        refine⟨trivial,?_⟩
       rotate_right
       focus
        conv=>whnf
        refine⟨H,e,Z6 f ?_⟩
        conv=>whnf
        refine⟨?_,?_⟩;rotate_left
        focus
         conv=>whnf
         refine⟨_,b,?_⟩
         conv=>whnf
         refine⟨by kernel_rfl,?_⟩
         conv=>whnf
         refine⟨H,e,Z6 f ?_⟩
         conv=>whnf
         refine⟨trivial,?_⟩
        rotate_right
        focus
         conv=>whnf
         refine⟨by kernel_rfl,?_⟩
         conv=>whnf
         refine⟨H,e,Z6 f ?_⟩
         conv=>whnf
         refine⟨_,b,?_⟩
         conv=>whnf
         refine⟨trivial,?_⟩
      rotate_right
      focus
       conv=>whnf
       refine⟨H,e,Z6 f ?_⟩
       conv=>whnf
       refine⟨?_,?_⟩;rotate_left
       focus
        conv=>whnf
        refine⟨_,m,?_⟩
        conv=>whnf
        refine⟨?_,?_⟩;rotate_left
        focus
         conv=>whnf
         refine⟨_,b,?_⟩
         conv=>whnf
         refine⟨by kernel_rfl,?_⟩
         conv=>whnf
         refine⟨H,e,Z6 f ?_⟩
         conv=>whnf
         refine⟨trivial,?_⟩
        rotate_right
        focus
         conv=>whnf
         refine⟨by kernel_rfl,?_⟩
         conv=>whnf
         refine⟨H,e,Z6 f ?_⟩
         conv=>whnf
         refine⟨_,b,?_⟩
         conv=>whnf
         refine⟨trivial,?_⟩
       rotate_right
       focus
        conv=>whnf
        refine⟨by kernel_rfl,?_⟩
        conv=>whnf
        refine⟨H,e,Z6 f ?_⟩
        conv=>whnf
        refine⟨_,m,?_⟩
        conv=>whnf
        refine⟨_,b,?_⟩
        conv=>whnf
        refine⟨trivial,?_⟩
     rotate_right
     focus
      conv=>whnf
      refine⟨_,m,?_⟩
      conv=>whnf
      refine⟨?_,?_⟩;rotate_left
      focus
       conv=>whnf
       refine⟨?_,?_⟩;rotate_left
       focus
        conv=>whnf
        refine⟨?_,?_⟩;rotate_left
        focus
         conv=>whnf
         refine⟨_,b,?_⟩
         conv=>whnf
         refine⟨H,e,Z6 f ?_⟩
         conv=>whnf
         refine⟨by kernel_rfl,?_⟩
         conv=>whnf
         refine⟨H,e,Z6 f ?_⟩
         conv=>whnf
         refine⟨trivial,?_⟩
        rotate_right
        focus
         conv=>whnf
         refine⟨H,e,Z6 f ?_⟩
         conv=>whnf
         refine⟨?_,?_⟩;rotate_left
         focus
          conv=>whnf
          refine⟨_,b,?_⟩
          conv=>whnf
          refine⟨by kernel_rfl,?_⟩
          conv=>whnf
          refine⟨H,e,Z6 f ?_⟩
          conv=>whnf
          refine⟨trivial,?_⟩
         rotate_right
         focus
          conv=>whnf
          refine⟨by kernel_rfl,?_⟩
          conv=>whnf
          refine⟨H,e,Z6 f ?_⟩
          conv=>whnf
          refine⟨_,b,?_⟩
          conv=>whnf
          refine⟨trivial,?_⟩
       rotate_right
       focus
        conv=>whnf
        refine⟨_,b,?_⟩
        conv=>whnf
        refine⟨?_,?_⟩;rotate_left
        focus
         conv=>whnf
         refine⟨H,e,Z6 f ?_⟩
         conv=>whnf
         refine⟨by kernel_rfl,?_⟩
         conv=>whnf
         refine⟨H,e,Z6 f ?_⟩
         conv=>whnf
         refine⟨trivial,?_⟩
        rotate_right
        focus
         conv=>whnf
         refine⟨H,e,Z6 f ?_⟩
         conv=>whnf
         refine⟨?_,?_⟩;rotate_left
         focus
          conv=>whnf
          refine⟨by kernel_rfl,?_⟩
          conv=>whnf
          refine⟨H,e,Z6 f ?_⟩
          conv=>whnf
          refine⟨trivial,?_⟩
         rotate_right
         focus
          conv=>whnf
          refine⟨by kernel_rfl,?_⟩
          conv=>whnf
          refine⟨H,e,Z6 f ?_⟩
          conv=>whnf
          refine⟨trivial,?_⟩
      rotate_right
      focus
       conv=>whnf
       refine⟨H,e,Z6 f ?_⟩
       conv=>whnf
       refine⟨?_,?_⟩;rotate_left
       focus
        conv=>whnf
        refine⟨?_,?_⟩;rotate_left
        focus
         conv=>whnf
         refine⟨?_,?_⟩;rotate_left
         focus
          conv=>whnf
          refine⟨_,b,?_⟩
          conv=>whnf
          refine⟨by kernel_rfl,?_⟩
          conv=>whnf
          refine⟨H,e,Z6 f ?_⟩
          conv=>whnf
          refine⟨trivial,?_⟩
         rotate_right
         focus
          conv=>whnf
          refine⟨by kernel_rfl,?_⟩
          conv=>whnf
          refine⟨H,e,Z6 f ?_⟩
          conv=>whnf
          refine⟨_,b,?_⟩
          conv=>whnf
          refine⟨trivial,?_⟩
        rotate_right
        focus
         conv=>whnf
         refine⟨_,b,?_⟩
         conv=>whnf
         refine⟨?_,?_⟩;rotate_left
         focus
          conv=>whnf
          refine⟨by kernel_rfl,?_⟩
          conv=>whnf
          refine⟨H,e,Z6 f ?_⟩
          conv=>whnf
          refine⟨trivial,?_⟩
         rotate_right
         focus
          conv=>whnf
          refine⟨by kernel_rfl,?_⟩
          conv=>whnf
          refine⟨H,e,Z6 f ?_⟩
          conv=>whnf
          refine⟨trivial,?_⟩
       rotate_right
       focus
        conv=>whnf
        refine⟨by kernel_rfl,?_⟩
        conv=>whnf
        refine⟨H,e,Z6 f ?_⟩
        conv=>whnf
        refine⟨?_,?_⟩;rotate_left
        focus
         conv=>whnf
         refine⟨_,b,?_⟩
         conv=>whnf
         refine⟨trivial,?_⟩
        rotate_right
        focus
         conv=>whnf
         refine⟨_,b,?_⟩
         conv=>whnf
         refine⟨trivial,?_⟩
    rotate_right
    focus
     conv=>whnf
     refine⟨H,e,Z6 f ?_⟩
     conv=>whnf
     refine⟨?_,?_⟩;rotate_left
     focus
      conv=>whnf
      refine⟨?_,?_⟩;rotate_left
      focus
       conv=>whnf
       refine⟨?_,?_⟩;rotate_left
       focus
        conv=>whnf
        refine⟨_,m,?_⟩
        conv=>whnf
        refine⟨?_,?_⟩;rotate_left
        focus
         conv=>whnf
         refine⟨_,b,?_⟩
         conv=>whnf
         refine⟨by kernel_rfl,?_⟩
         conv=>whnf
         refine⟨H,e,Z6 f ?_⟩
         conv=>whnf
         refine⟨trivial,?_⟩
        rotate_right
        focus
         conv=>whnf
         refine⟨by kernel_rfl,?_⟩
         conv=>whnf
         refine⟨H,e,Z6 f ?_⟩
         conv=>whnf
         refine⟨_,b,?_⟩
         conv=>whnf
         refine⟨trivial,?_⟩
       rotate_right
       focus
        conv=>whnf
        refine⟨by kernel_rfl,?_⟩
        conv=>whnf
        refine⟨H,e,Z6 f ?_⟩
        conv=>whnf
        refine⟨_,m,?_⟩
        conv=>whnf
        refine⟨_,b,?_⟩
        conv=>whnf
        refine⟨trivial,?_⟩
      rotate_right
      focus
       conv=>whnf
       refine⟨_,m,?_⟩
       conv=>whnf
       refine⟨?_,?_⟩;rotate_left
       focus
        conv=>whnf
        refine⟨?_,?_⟩;rotate_left
        focus
         conv=>whnf
         refine⟨?_,?_⟩;rotate_left
         focus
          conv=>whnf
          refine⟨_,b,?_⟩
          conv=>whnf
          refine⟨by kernel_rfl,?_⟩
          conv=>whnf
          refine⟨H,e,Z6 f ?_⟩
          conv=>whnf
          refine⟨trivial,?_⟩
         rotate_right
         focus
          conv=>whnf
          refine⟨by kernel_rfl,?_⟩
          conv=>whnf
          refine⟨H,e,Z6 f ?_⟩
          conv=>whnf
          refine⟨_,b,?_⟩
          conv=>whnf
          refine⟨trivial,?_⟩
        rotate_right
        focus
         conv=>whnf
         refine⟨_,b,?_⟩
         conv=>whnf
         refine⟨?_,?_⟩;rotate_left
         focus
          conv=>whnf
          refine⟨by kernel_rfl,?_⟩
          conv=>whnf
          refine⟨H,e,Z6 f ?_⟩
          conv=>whnf
          refine⟨trivial,?_⟩
         rotate_right
         focus
          conv=>whnf
          refine⟨by kernel_rfl,?_⟩
          conv=>whnf
          refine⟨H,e,Z6 f ?_⟩
          conv=>whnf
          refine⟨trivial,?_⟩
       rotate_right
       focus
        conv=>whnf
        refine⟨by kernel_rfl,?_⟩
        conv=>whnf
        refine⟨H,e,Z6 f ?_⟩
        conv=>whnf
        refine⟨?_,?_⟩;rotate_left
        focus
         conv=>whnf
         refine⟨_,b,?_⟩
         conv=>whnf
         refine⟨trivial,?_⟩
        rotate_right
        focus
         conv=>whnf
         refine⟨_,b,?_⟩
         conv=>whnf
         refine⟨trivial,?_⟩
     rotate_right
     focus
      conv=>whnf
      refine⟨by kernel_rfl,?_⟩
      conv=>whnf
      refine⟨H,e,Z6 f ?_⟩
      conv=>whnf
      refine⟨?_,?_⟩;rotate_left
      focus
       conv=>whnf
       refine⟨_,m,?_⟩
       conv=>whnf
       refine⟨_,b,?_⟩
       conv=>whnf
       refine⟨trivial,?_⟩
      rotate_right
      focus
       conv=>whnf
       refine⟨_,m,?_⟩
       conv=>whnf
       refine⟨?_,?_⟩;rotate_left
       focus
        conv=>whnf
        refine⟨_,b,?_⟩
        conv=>whnf
        refine⟨trivial,?_⟩
       rotate_right
       focus
        conv=>whnf
        refine⟨_,b,?_⟩
        conv=>whnf
        refine⟨trivial,?_⟩
  rotate_right
  focus
   conv=>whnf
   refine⟨?_,?_⟩;rotate_left
   focus
    conv=>whnf
    refine⟨_,c,?_⟩
    conv=>whnf
    refine⟨H,e,Z6 f ?_⟩
    conv=>whnf
    refine⟨?_,?_⟩;rotate_left
    focus
     conv=>whnf
     refine⟨_,m,?_⟩
     conv=>whnf
     refine⟨?_,?_⟩;rotate_left
     focus
      conv=>whnf
      refine⟨_,b,?_⟩
      conv=>whnf
      refine⟨by kernel_rfl,?_⟩
      conv=>whnf
      refine⟨H,e,Z6 f ?_⟩
      conv=>whnf
      refine⟨trivial,?_⟩
     rotate_right
     focus
      conv=>whnf
      refine⟨by kernel_rfl,?_⟩
      conv=>whnf
      refine⟨H,e,Z6 f ?_⟩
      conv=>whnf
      refine⟨_,b,?_⟩
      conv=>whnf
      refine⟨trivial,?_⟩
    rotate_right
    focus
     conv=>whnf
     refine⟨by kernel_rfl,?_⟩
     conv=>whnf
     refine⟨H,e,Z6 f ?_⟩
     conv=>whnf
     refine⟨_,m,?_⟩
     conv=>whnf
     refine⟨_,b,?_⟩
     conv=>whnf
     refine⟨trivial,?_⟩
   rotate_right
   focus
    conv=>whnf
    refine⟨_,c,?_⟩
    conv=>whnf
    refine⟨H,e,Z6 f ?_⟩
    conv=>whnf
    refine⟨?_,?_⟩;rotate_left
    focus
     conv=>whnf
     refine⟨?_,?_⟩;rotate_left
     focus
      conv=>whnf
      refine⟨?_,?_⟩;rotate_left
      focus
       conv=>whnf
       refine⟨_,m,?_⟩
       conv=>whnf
       refine⟨?_,?_⟩;rotate_left
       focus
        conv=>whnf
        refine⟨_,b,?_⟩
        conv=>whnf
        refine⟨by kernel_rfl,?_⟩
        conv=>whnf
        refine⟨H,e,Z6 f ?_⟩
        conv=>whnf
        refine⟨trivial,?_⟩
       rotate_right
       focus
        conv=>whnf
        refine⟨by kernel_rfl,?_⟩
        conv=>whnf
        refine⟨H,e,Z6 f ?_⟩
        conv=>whnf
        refine⟨_,b,?_⟩
        conv=>whnf
        refine⟨trivial,?_⟩
      rotate_right
      focus
       conv=>whnf
       refine⟨by kernel_rfl,?_⟩
       conv=>whnf
       refine⟨H,e,Z6 f ?_⟩
       conv=>whnf
       refine⟨_,m,?_⟩
       conv=>whnf
       refine⟨_,b,?_⟩
       conv=>whnf
       refine⟨trivial,?_⟩
     rotate_right
     focus
      conv=>whnf
      refine⟨_,m,?_⟩
      conv=>whnf
      refine⟨?_,?_⟩;rotate_left
      focus
       conv=>whnf
       refine⟨?_,?_⟩;rotate_left
       focus
        conv=>whnf
        refine⟨?_,?_⟩;rotate_left
        focus
         conv=>whnf
         refine⟨_,b,?_⟩
         conv=>whnf
         refine⟨by kernel_rfl,?_⟩
         conv=>whnf
         refine⟨H,e,Z6 f ?_⟩
         conv=>whnf
         refine⟨trivial,?_⟩
        rotate_right
        focus
         conv=>whnf
         refine⟨by kernel_rfl,?_⟩
         conv=>whnf
         refine⟨H,e,Z6 f ?_⟩
         conv=>whnf
         refine⟨_,b,?_⟩
         conv=>whnf
         refine⟨trivial,?_⟩
       rotate_right
       focus
        conv=>whnf
        refine⟨_,b,?_⟩
        conv=>whnf
        refine⟨?_,?_⟩;rotate_left
        focus
         conv=>whnf
         refine⟨by kernel_rfl,?_⟩
         conv=>whnf
         refine⟨H,e,Z6 f ?_⟩
         conv=>whnf
         refine⟨trivial,?_⟩
        rotate_right
        focus
         conv=>whnf
         refine⟨by kernel_rfl,?_⟩
         conv=>whnf
         refine⟨H,e,Z6 f ?_⟩
         conv=>whnf
         refine⟨trivial,?_⟩
      rotate_right
      focus
       conv=>whnf
       refine⟨by kernel_rfl,?_⟩
       conv=>whnf
       refine⟨H,e,Z6 f ?_⟩
       conv=>whnf
       refine⟨?_,?_⟩;rotate_left
       focus
        conv=>whnf
        refine⟨_,b,?_⟩
        conv=>whnf
        refine⟨trivial,?_⟩
       rotate_right
       focus
        conv=>whnf
        refine⟨_,b,?_⟩
        conv=>whnf
        refine⟨trivial,?_⟩
    rotate_right
    focus
     conv=>whnf
     refine⟨by kernel_rfl,?_⟩
     conv=>whnf
     refine⟨H,e,Z6 f ?_⟩
     conv=>whnf
     refine⟨?_,?_⟩;rotate_left
     focus
      conv=>whnf
      refine⟨_,m,?_⟩
      conv=>whnf
      refine⟨_,b,?_⟩
      conv=>whnf
      refine⟨trivial,?_⟩
     rotate_right
     focus
      conv=>whnf
      refine⟨_,m,?_⟩
      conv=>whnf
      refine⟨?_,?_⟩;rotate_left
      focus
       conv=>whnf
       refine⟨_,b,?_⟩
       conv=>whnf
       refine⟨trivial,?_⟩
      rotate_right
      focus
       conv=>whnf
       refine⟨_,b,?_⟩
       conv=>whnf
       refine⟨trivial,?_⟩
  all_goals
   iterate 3 ((conv=>whnf);refine⟨by kernel_rfl,?_⟩)
   conv=>whnf
   refine Xu h (λ_ _ h=>?_)
   conv=>whnf
   refine⟨trivial,?_⟩
   iterate 3 ((conv=>whnf);refine⟨by kernel_rfl,?_⟩)
   conv=>whnf
   refine Xu h (λ_ _ h=>?_)
   conv=>whnf
   refine⟨trivial,?_⟩
   conv=>whnf
   refine Xu h (λ_ _ h=>?_)
   conv=>whnf
   refine ZhT h (λh=>?_) (λh=>?_)
   conv=>whnf
   cases h;exact k
   conv=>whnf
   refine ZhT h (λh=>?_) (λh=>?_)
   conv=>whnf
   refine Xu h (λl _ h=>?_)
   conv=>whnf
   refine vAt h (λp j n x h=>?_)
   conv=>whnf
   refine⟨by kernel_rfl,?_⟩
   conv=>whnf
   refine⟨j,n,Z6 x ?_⟩
   conv=>whnf
   cases h;exact k
   conv=>whnf
   refine ZhT h (λh=>?_) (λh=>?_)
   conv=>whnf
   refine Xu h (λl _ h=>?_)
   conv=>whnf
   cases h;exact k
   conv=>whnf
   refine ZhT h (λh=>?_) (λh=>?_)
   conv=>whnf
   cases h;exact k
   conv=>whnf
   cases h;exact k
end Go.Proofs.YtcjminfjgckdlaaGreatDoor
