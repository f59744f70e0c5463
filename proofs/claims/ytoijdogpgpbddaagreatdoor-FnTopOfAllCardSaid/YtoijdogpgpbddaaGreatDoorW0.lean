/-
  The functions keep their contracts, if what they call does. Printed by program.
-/
import Derived.Test.YtoijdogpgpbddaaGreatDoorM
import Derived.KernelRfl
namespace Go.Proofs.YtoijdogpgpbddaaGreatDoor
open Go Go.Sx
set_option maxRecDepth 100000
set_option maxHeartbeats 100000000
set_option linter.unusedVariables false
set_option linter.unusedSimpArgs false
structure Ws0:Prop where
 w271:Sq 60 ZF8->Sq 61 ZGa->Sq 25 ZJw
 w177:Sq 205 ZIJ
 w178:Sq 205 ZIJ->Sq 140 ZIK
 w184:Sq 207 c183->Sq 143 ZIM
 w264:Sq 117 c171->Sq 120 ZF9
 w266:Sq 121 ZGB
 w269:Sq 120 ZF9->Sq 117 c171->Sq 188 ZEm->Sq 189 ZHw->Sq 121 ZGB->Sq 122 ZGC->Sq 119 ZHF
 w145:Sq 336 ZHu->Sq 340 c145
 w159:Sq 266 ZGx->Sq 221 c159
 w163:Sq 223 c162->Sq 267 ZIB
 w249:Sq 295 c124->Sq 247 ZJj
 w270:Sq 116 ZHD->Sq 117 c171->Sq 118 ZJv->Sq 119 ZHF->Sq 120 ZF9->Sq 121 ZGB->Sq 122 ZGC->Sq 123 ZGA->Sq 61 ZGa
 w251:Sq 117 c171->Sq 244 ZJf->Sq 245 ZHC->Sq 161 ZF5->Sq 246 ZJi->Sq 247 ZJj->Sq 248 ZJk->Sq 141 ZEl->Sq 160 c173->Sq 185 ZJl
 w237:Sq 242 ZI8
 w272:Sq 146 ZHE->Sq 117 c171->Sq 70 ZHG
 w296:Sq 60 ZF8->Sq 67 ZJQ->Sq 28 ZJR
 w167:Sq 225 c167
 w158:Sq 265 c157->Sq 266 ZGx->Sq 220 ZIA
 w191:Sq 178 ZIO->Sq 103 ZEn
 w236:Sq 54 ZHz->Sq 55 ZI7->Sq 23 c236
 w277:Sq 60 ZF8->Sq 68 ZF6->Sq 97 c194->Sq 124 ZJy->Sq 62 ZJz
 w290:Sq 54 ZHz->Sq 125 ZJD->Sq 126 ZJG->Sq 127 ZJK->Sq 63 ZJL
 w193:Sq 103 ZEn->Sq 209 ZIP->Sq 145 c193
 w133:Sq 193 ZIn->Sq 166 ZDK
 w274:Sq 72 ZHH
 w256:Sq 190 ZDL->Sq 251 ZJp
 w242:Sq 292 ZJd
 w215:Sq 235 ZIZ->Sq 169 ZI0
 w203:Sq 231 c203
 w200:Sq 170 ZIT
 w245:Sq 245 ZHC
 w195:Sq 167 ZIQ
 w186:Sq 229 ZHx
 w239:Sq 326 ZI9->Sq 290 ZJa
 w209:Sq 233 ZIX
 w207:Sq 95 ZHv->Sq 96 ZII->Sq 68 ZF6->Sq 97 c194->Sq 98 c196->Sq 69 c198->Sq 99 ZIS->Sq 100 c206->Sq 54 ZHz
 w198:Sq 144 ZIR->Sq 103 ZEn->Sq 145 c193->Sq 69 c198
 w228:Sq 237 ZGz->Sq 277 c218->Sq 278 ZHB->Sq 279 ZF7->Sq 281 c226->Sq 280 c227->Sq 236 c228
 w199:Sq 99 ZIS
 w194:Sq 163 ZDM->Sq 164 ZHy->Sq 165 ZIN->Sq 103 ZEn->Sq 145 c193->Sq 97 c194
 w217:Sq 237 ZGz
 w231:Sq 237 ZGz->Sq 277 c218->Sq 278 ZHB->Sq 282 ZI5->Sq 238 ZI6
 w230:Sq 321 c229->Sq 279 ZF7->Sq 282 ZI5
 w121:Sq 208 ZtO
 w305:Sq 81 ZP0
 w330:Sq 37 ZPV->Sq 38 ZPU->Sq 12 ZQo
 w323:Sq 35 ZPM->Sq 150 ZQh->Sq 79 ZQi
 w313:Sq 35 ZPM->Sq 333 ZP7->Sq 307 ZP8
 w308:Sq 81 ZP0->Sq 38 ZPU
 w322:Sq 37 ZPV->Sq 38 ZPU->Sq 150 ZQh
 w312:Sq 151 ZP1->Sq 333 ZP7
 w299:Sq 147 ZHK
 w297:Sq 73 ZJS
 w298:Sq 73 ZJS->Sq 30 ZJT
 w301:Sq 147 ZHK->Sq 75 ZJV
 w283:Sq 191 ZJE
 w258:Sq 252 ZJr
 w284:Sq 192 ZJF
 w140:Sq 365 c139->Sq 359 ZIr
 w165:Sq 255 c164->Sq 193 ZIC
 w132:Sq 255 c131->Sq 193 ZIn
 w149:Sq 339 c148->Sq 353 ZIv
 w164:Sq 267 ZIB->Sq 255 c164
 w131:Sq 230 c130->Sq 255 c131
 w287:Sq 194 ZJH->Sq 255 ZJI
 w168:Sq 225 c167->Sq 268 c168
 w63:Sq 65 c49->Sq 66 c62->Sq 27 c63
 w66:Sq 13 c1->Sq 14 c19->Sq 15 c65->Sq 16 c2->Sq 17 c38->Sq 6 c66
 w120:Sq 51 c33->Sq 53 c72->Sq 21 ZIk
 w43:Sq 200 c43
 w45:Sq 258 c44->Sq 201 c45
 w119:Sq 52 c117->Sq 22 c119
 w25:Sq 335 c24->Sq 310 c25
 w99:Sq 287 c99
 w21:Sq 94 c21
 w4:Sq 16 c2->Sq 334 c4
 w27:Sq 94 c21->Sq 264 c26->Sq 218 c27
 w7:Sq 16 c2->Sq 262 c6->Sq 213 c7
 w28:Sq 219 c28
 w52:Sq 40 c16->Sq 263 c51->Sq 216 c52
 w22:Sq 158 c20->Sq 94 c21->Sq 217 c22
 w44:Sq 258 c44
 w117:Sq 51 c33->Sq 42 c13->Sq 94 c21->Sq 52 c117
 w12:Sq 16 c2->Sq 45 c11->Sq 83 c12
 w13:Sq 42 c13
 w102:Sq 322 c96->Sq 324 ZHs
 w17:Sq 16 c2->Sq 85 c15->Sq 40 c16->Sq 46 c17
 w96:Sq 40 c16->Sq 42 c13->Sq 47 c14->Sq 346 c95->Sq 322 c96
 w103:Sq 324 ZHs->Sq 287 c99->Sq 285 ZIa
 w41:Sq 198 c41
 w62:Sq 90 c56->Sq 42 c13->Sq 133 c60->Sq 134 c61->Sq 135 c57->Sq 136 c58->Sq 137 c59->Sq 138 c55->Sq 66 c62
 w38:Sq 41 c35->Sq 42 c13->Sq 16 c2->Sq 43 c36->Sq 44 c37->Sq 45 c11->Sq 47 c14->Sq 46 c17->Sq 17 c38
 w40:Sq 42 c13->Sq 94 c21->Sq 131 c40
 w61:Sq 135 c57->Sq 47 c14->Sq 42 c13->Sq 136 c58->Sq 40 c16->Sq 137 c59->Sq 134 c61
 w71:Sq 109 c70->Sq 108 c71
 w74:Sq 41 c35->Sq 16 c2->Sq 57 c73->Sq 88 c74
 w91:Sq 181 c91
 w86:Sq 94 c21->Sq 179 c86
 w81:Sq 57 c73->Sq 59 c76->Sq 111 c77->Sq 154 c80->Sq 114 c75->Sq 89 c81
 w97:Sq 42 c13->Sq 322 c96->Sq 283 c97
 w101:Sq 42 c13->Sq 286 ZHr
 w93:Sq 41 c35->Sq 104 c85->Sq 105 c87->Sq 106 c90->Sq 107 c92->Sq 56 c93
 w82:Sq 41 c35->Sq 42 c13->Sq 16 c2->Sq 50 c82
 w110:Sq 183 ZIe
 w109:Sq 239 c105->Sq 240 ZId->Sq 182 c109
set_option maxHeartbeats 100000000 in
theorem ws0:Ws0:=by
 refine ⟨(λQ q=>Hd Zx (Ze Q (Ze q Zn)) {} Tryz.func25 ?_),
 (Hd Zx Zn {} Tryz.func205 ?_),
 (λq=>Hd Zx (Ze q Zn) {loops:=[(0,[.reg 7 (.own (.ol 222 (.flat (ZcP)))),.reg 21 (.dat Iq)]),(2,[.reg 7 (.own (.ol 222 (.flat (ZcP)))),.reg 29 (.dat Iq)])]} Tryz.func140 ?_),
 (λq=>Hd Zx (Ze q Zn) {loops:=[(0,[.reg 6 (.own (.ol 2 (.flat Iq))),.reg 19 (.dat Iq)])]} Tryz.func143 ?_),
 (λq=>Hd Zx (Ze q Zn) {loops:=[(0,[.reg 16 (.dat Iq),.entm 1 (Zv6.ty) (Zv6.ety),.ent 2 (nat_lit 3) (.flat Zto.ety)])],draws:=[(7,[],.u 0 20 (.d 20))]} Tryz.func120 ?_),
 (Hd Qx Zn {draws:=[(2,[],.u 0 10 (.d 10)),(3,[],.u 0 14 (.d 14))]} Tryz.func121 ?_),
 (λq Q b f g c=>Hd ZBo (Ze q (Ze Q (Ze b (Ze f (Ze g (Ze c Zn)))))) {draws:=[(4,[],.u 0 10 (.alt 10 (.op 11 (.alt 12 (.u 13 4 (.a [17,18] .done)) (.a [17,12] (.u 13 4 (.d 18))))) (.a [17,10] (.op 11 (.alt 12 (.u 13 4 (.d 18)) .done))))),(6,[],.o [0,2,3,4] (.alt 1 (.a [5,6] .done) (.a [5,1,6] .done))),(7,[],.u 0 13 (.d 13)),(9,[],.u 0 13 (.alt 13 (.o [14,15,16] (.d 17)) .done)),(10,[],.u 0 11 (.alt 11 (.o [12,13] (.d 14)) .done))]} Tryz.func119 ?_),
 (λq=>Hd Zx (Ze q Zn) {} Tryz.func340 ?_),
 (λq=>Hd Zx (Ze q Zn) {loops:=[(0,[.reg 3 (.own (.ol 9 (.flat (.str)))),.reg 12 (.dat Iq)]),(2,[.reg 4 (.own (.ol 9 (.flat (.str)))),.reg 25 (.dat Iq)])]} Tryz.func221 ?_),
 (λq=>Hd Zx (Ze q Zn) {} Tryz.func267 ?_),
 (λq=>Hd Zx (Ze q Zn) {} Tryz.func247 ?_),
 (λi Q f q b g c j=>Hd Qx (Ze i (Ze Q (Ze f (Ze q (Ze b (Ze g (Ze c (Ze j Zn)))))))) {draws:=[(4,[],.u 0 5 (.o [6,7,11,12] (.alt 5 (.o [8,9,10,13,14] (.d 15)) .done))),(11,[],.o [0,1,3,4] (.alt 2 (.o [5,6] (.a [7,8] .done)) (.a [7,2] (.o [5,6] (.d 8))))),(17,[],.u 0 6 (.alt 6 (.op 7 (.d 8)) .done))]} Tryz.func61 ?_),
 (λb g i j c Q q f s=>Hd Zx (Ze b (Ze g (Ze i (Ze j (Ze c (Ze Q (Ze q (Ze f (Ze s Zn))))))))) {draws:=[(6,[],.u 0 27 (.alt 27 (.o [28,29] .done) .done)),(12,[],.u 0 19 .done),(13,[],.u 0 9 (.a [9,10] (.op 11 .done)))]} Tryz.func185 ?_),
 (Hd Zx Zn {} Tryz.func242 ?_),
 (λq Q=>Hd Zx (Ze q (Ze Q Zn)) {loops:=[(0,[.reg 5 (.own (.ol 2 (.flat Iq))),.reg 19 (.dat Iq)])]} Tryz.func70 ?_),
 (λQ q=>Hd Zx (Ze Q (Ze q Zn)) {} Tryz.func28 ?_),
 (Hd Zx Zn {} Tryz.func225 ?_),
 (λQ q=>Hd Zx (Ze Q (Ze q Zn)) {loops:=[(0,[.reg 3 (.own (.ol 9 (.flat (.str)))),.reg 9 (.dat Iq)])]} Tryz.func220 ?_),
 (λq=>Hd Zx (Ze q Zn) {} Tryz.func103 ?_),
 (λQ q=>Hd Zx (Ze Q (Ze q Zn)) {} Tryz.func23 ?_),
 (λb c Q q=>Hd Zx (Ze b (Ze c (Ze Q (Ze q Zn)))) {draws:=[(4,[],.o [0,2] (.a [1,3] (.op 4 .done)))]} Tryz.func62 ?_),
 (λc q Q b=>Hd Zx (Ze c (Ze q (Ze Q (Ze b Zn)))) {} Tryz.func63 ?_),
 (λq Q=>Hd Zx (Ze q (Ze Q Zn)) {} Tryz.func145 ?_),
 (λq=>Hd Zx (Ze q Zn) {} Tryz.func166 ?_),
 (Hd Zx Zn {} Tryz.func72 ?_),
 (λq=>Hd Qx (Ze q Zn) {loops:=[(0,[.reg 3 (.own (.ol 330 (ZkH))),.reg 8 (.dat Iq)])],draws:=[(5,[],.o [0,1,2,4,5,7,8] (.a [3,6,9] (.op 10 (.a [11,12] (.op 13 .done)))))]} Tryz.func251 ?_),
 (Hd Zx Zn {} Tryz.func292 ?_),
 (λq=>Hd Zx (Ze q Zn) {loops:=[(0,[.reg 5 (.own (.ol 2 (.flat Iq))),.reg 16 (.dat Iq)])]} Tryz.func169 ?_),
 (Hd Zx Zn {} Tryz.func231 ?_),
 (Hd Zx Zn {} Tryz.func170 ?_),
 (Hd Zx Zn {} Tryz.func245 ?_),
 (Hd Zx Zn {} Tryz.func167 ?_),
 (Hd Zx Zn {} Tryz.func229 ?_),
 (λq=>Hd Zx (Ze q Zn) {} Tryz.func290 ?_),
 (Hd Zx Zn {} Tryz.func233 ?_),
 (λi g j Q b q c f=>Hd Zx (Ze i (Ze g (Ze j (Ze Q (Ze b (Ze q (Ze c (Ze f Zn)))))))) {} Tryz.func54 ?_),
 (λq b Q=>Hd Zx (Ze q (Ze b (Ze Q Zn))) {loops:=[(0,[.reg 9 (.dat Iq)])],draws:=[(4,[],.o [0,1,2] (.alt 3 (.u 4 4 (.alt 8 (.u 9 5 (.alt 14 (.u 15 17 .done) .done)) .done)) .done))]} Tryz.func69 ?_),
 (λb c Q f q g=>Hd Zx (Ze b (Ze c (Ze Q (Ze f (Ze q (Ze g Zn)))))) {draws:=[(5,[],.o [0,1,4,5,6] (.u 9 9 (.alt 2 (.o [3,7,8] (.alt 18 (.op 19 .done) .done)) .done))),(6,[],.u 0 12 (.alt 12 (.op 13 .done) .done))]} Tryz.func236 ?_),
 (Hd Zx Zn {loops:=[(0,[.reg 23 (.dat Iq),.ent 0 (nat_lit 4) (.flat ZyF.ety)]),(2,[.reg 35 (.dat Iq),.ent 0 (nat_lit 4) (.flat ZyF.ety)])]} Tryz.func99 ?_),
 (λb Q q f c=>Hd Zx (Ze b (Ze Q (Ze q (Ze f (Ze c Zn))))) {loops:=[(0,[.reg 32 (.dat Iq)])]} Tryz.func97 ?_),
 (Hd Zx Zn {draws:=[(1,[],.u 0 11 .done)]} Tryz.func237 ?_),
 (λQ b q c=>Hd Zx (Ze Q (Ze b (Ze q (Ze c Zn)))) {draws:=[(4,[],.o [0,1,4,5,6] (.u 9 9 (.alt 2 (.o [3,7,8] (.alt 18 (.o [19,20] .done) .done)) .done))),(5,[],.u 0 13 (.alt 13 (.o [14,15] .done) .done))]} Tryz.func238 ?_),
 (λQ q=>Hd Zx (Ze Q (Ze q Zn)) {} Tryz.func282 ?_),
 (Hd Zx Zn {} Tryz.func208 ?_),
 (Hd Zx Zn {} Tryz.func81 ?_),
 (λQ q=>Hd Zx (Ze Q (Ze q Zn)) {} Tryz.func12 ?_),
 (λq Q=>Hd Zx (Ze q (Ze Q Zn)) {loops:=[(0,[.reg 3 (.own (.ol 99 (.flat (Zo7)))),.reg 4 (.dat Iq),.cell 0 0 (.sl (.int .u8))])]} Tryz.func79 ?_),
 (λQ q=>Hd Qx (Ze Q (Ze q Zn)) {loops:=[(0,[.reg 3 (.own (.ol 330 (ZkH))),.reg 4 (.dat Iq),.cell 0 0 (.sl (.int .u8))])]} Tryz.func307 ?_),
 (λq=>Hd Zx (Ze q Zn) {loops:=[(0,[.reg 4 (.dat (.int .u64)),.reg 5 (.dat Iq),.cell 0 0 (.sl (.int .u8))])]} Tryz.func38 ?_),
 (λQ q=>Hd Zx (Ze Q (Ze q Zn)) {} Tryz.func150 ?_),
 (λq=>Hd Zx (Ze q Zn) {} Tryz.func333 ?_),
 (Hd Zx Zn {loops:=[(0,[.reg 5 (.dat Iq)])],draws:=[(6,[],.u 0 9 .done)]} Tryz.func147 ?_),
 (Hd Zx Zn {loops:=[(0,[.reg 5 (.dat Iq)])],draws:=[(6,[],.u 0 9 .done)]} Tryz.func73 ?_),
 (λq=>Hd Zx (Ze q Zn) {loops:=[(0,[.reg 5 (.dat Iq)])],draws:=[(6,[],.u 0 11 .done)]} Tryz.func30 ?_),
 (λq=>Hd Zx (Ze q Zn) {} Tryz.func75 ?_),
 (Hd Zx Zn {} Tryz.func191 ?_),
 (Hd Zx Zn {} Tryz.func252 ?_),
 (Hd Zx Zn {} Tryz.func192 ?_),
 (λq=>Hd Zx (Ze q Zn) {} Tryz.func359 ?_),
 (λq=>Hd Zx (Ze q Zn) {} Tryz.func193 ?_),
 (λq=>Hd Zx (Ze q Zn) {} Tryz.func193 ?_),
 (λq=>Hd Zx (Ze q Zn) {loops:=[(0,[.reg 8 (.dat Iq)])]} Tryz.func353 ?_),
 (λq=>Hd Zx (Ze q Zn) {loops:=[(0,[.reg 8 (.dat Iq)])]} Tryz.func255 ?_),
 (λq=>Hd Zx (Ze q Zn) {loops:=[(0,[.reg 8 (.dat Iq)])]} Tryz.func255 ?_),
 (λq=>Hd Zx (Ze q Zn) {loops:=[(0,[.reg 8 (.dat Iq)])]} Tryz.func255 ?_),
 (λq=>Hd Zx (Ze q Zn) {loops:=[(0,[.reg 8 (.dat Iq)])]} Tryz.func268 ?_),
 (λq Q=>Hd Qx (Ze q (Ze Q Zn)) {} Tryz.func27 ?_),
 (λb Q q c f=>Hd Qx (Ze b (Ze Q (Ze q (Ze c (Ze f Zn))))) {} Tryz.func6 ?_),
 (λQ q=>Hd Zx (Ze Q (Ze q Zn)) {} Tryz.func21 ?_),
 (Hd Zx Zn {loops:=[(0,[.reg 5 (.dat Iq)])]} Tryz.func200 ?_),
 (λq=>Hd Zx (Ze q Zn) {} Tryz.func201 ?_),
 (λq=>Hd Zx (Ze q Zn) {} Tryz.func22 ?_),
 (λq=>Hd Zx (Ze q Zn) {loops:=[(0,[.reg 5 (.dat Iq),.cell 1004 0 Iq,.cell 1004 1 Iq])],draws:=[(3,[],.u 0 9 (.a [9,10] .done)),(7,[],.u 0 9 (.d 9)),(8,[],.u 0 9 (.d 9))]} Tryz.func310 ?_),
 (Hd Zx Zn {} Tryz.func287 ?_),
 (Hd Zx Zn {} Tryz.func94 ?_),
 (λq=>Hd Zx (Ze q Zn) {loops:=[(0,[.reg 5 (.own (.ol 2 (.flat Iq))),.reg 6 (.dat Iq),.reg 7 (.dat Iq),.cell 0 0 (.sl (.int .u8)),.cell 0 1 Iq,.cell 0 2 Iq])]} Tryz.func334 ?_),
 (λQ q=>Hd Zx (Ze Q (Ze q Zn)) {} Tryz.func218 ?_),
 (λQ q=>Hd Qx (Ze Q (Ze q Zn)) {} Tryz.func213 ?_),
 (Hd Zx Zn {loops:=[(0,[.reg 4 (.dat Iq),.ent 1 (nat_lit 2) (.flat ZBq.ety)])]} Tryz.func219 ?_),
 (λQ q=>Hd Qx (Ze Q (Ze q Zn)) {loops:=[(0,[.reg 4 (.dat Iq),.cello 1003 3 (.ol 186 (ZDQ))])],draws:=[(1,[],.o [0,2,5,6,8,11,13] (.l [1,3,9,12,14] (.alt 4 (.alt 7 (.alt 10 (.op 15 (.a [16,17] .done)) (.a [16,10] (.op 15 (.d 17)))) (.a [16,7,10] (.op 15 (.d 17)))) (.a [16,4,7,10] (.op 15 (.d 17))))))]} Tryz.func216 ?_),
 (λq Q=>Hd Zx (Ze q (Ze Q Zn)) {loops:=[(0,[.reg 5 (.dat Iq),.reg 6 (.dat Iq)]),(2,[.reg 8 (.dat Iq)])],draws:=[(12,[],.u 0 9 .done)]} Tryz.func217 ?_),
 (Hd Zx Zn {loops:=[(0,[.reg 5 (.dat Iq)])]} Tryz.func258 ?_),
 (λQ q b=>Hd Zx (Ze Q (Ze q (Ze b Zn))) {} Tryz.func52 ?_),
 (λQ q=>Hd Qx (Ze Q (Ze q Zn)) {loops:=[(0,[.reg 9 (.own (.ol 105 (Zh6))),.reg 10 (.own (.ol 9 (.flat (.str)))),.reg 11 (.dat Iq),.cell 1000 0 (.sl (.int .u8)),.cell 1000 1 Iq,.cell 1000 2 Iq]),(2,[.reg 14 (.dat Iq),.cell 1000 0 (.sl (.int .u8)),.cell 1000 1 Iq,.cell 1000 2 Iq,.cello 1013 2 (.ol 2 (.flat Iq))]),(4,[.reg 16 (.dat Iq),.cell 1000 0 (.sl (.int .u8)),.cell 1000 1 Iq,.cell 1000 2 Iq,.ent 9 (nat_lit 105) (Dp.pair (Dp.flat Ty.str) (Dp.pair (Dp.flat (Ty.int IntKind.i64)) (Dp.pair (Dp.ol (2:Go.TypeId) (Dp.flat (Ty.int IntKind.i64))) (Dp.flat Ty.unit))))])],draws:=[(27,[],.u 0 4 (.u 5 4 (.alt 4 (.alt 9 (.o [10,11] (.d 12)) .done) (.alt 9 (.op 10 (.alt 4 (.op 11 (.d 12)) .done)) .done))))]} Tryz.func83 ?_),
 (Hd Zx Zn {loops:=[(0,[.reg 3 (.own (.ol 117 (.flat (Zgm)))),.reg 4 (.dat Iq)]),(2,[.reg 3 (.own (.ol 117 (.flat (Zgm)))),.reg 6 (.dat Iq)]),(4,[.reg 3 (.own (.ol 117 (.flat (Zgm)))),.reg 7 (.dat Iq)])],draws:=[(13,[],.u 0 16 (.a [16,17] (.op 18 .done)))]} Tryz.func42 ?_),
 (λq=>Hd Zx (Ze q Zn) {loops:=[(0,[.reg 7 (.own (.ol 2 (.flat Iq))),.reg 8 (.dat Iq)])],draws:=[(7,[],.u 0 20 (.a [20,21] (.op 22 .done)))]} Tryz.func324 ?_),
 (λQ q b=>Hd Zx (Ze Q (Ze q (Ze b Zn))) {loops:=[(0,[.reg 6 (.dat Iq),.cell 1000 0 (.sl (.int .u8)),.cell 1000 1 Iq,.cell 1000 2 Iq,.cello 1005 0 (.ol (nat_lit 2) (.flat (Ty.int IntKind.i64))),.cello 1005 1 (.ol (nat_lit 2) (.flat (Ty.int IntKind.i64))),.cello 1005 2 (.ol (nat_lit 2) (.flat (Ty.int IntKind.i64))),.cello 1005 3 (.ol (nat_lit 2) (.flat (Ty.int IntKind.i64)))]),(2,[.reg 8 (.dat Iq),.cell 1000 0 (.sl (.int .u8)),.cell 1000 1 Iq,.cell 1000 2 Iq,.ent 10 (nat_lit 2) (.flat (Ty.int IntKind.i64))])],draws:=[(6,[],.o [0,1,3,4,8,11,15,18,22] (.l [9,16,23] (.a [2,5,6,7,10,12,13,14,17,19,20,21] (.op 24 (.d 25))))),(10,[],.op 0 (.u 2 5 (.ld 1 (.alt 7 (.op 8 (.d 9)) .done))))]} Tryz.func46 ?_),
 (λb q Q c=>Hd Zx (Ze b (Ze q (Ze Q (Ze c Zn)))) {loops:=[(0,[.reg 9 (.dat Iq),.ent 2 (nat_lit 2) (.flat (Ty.int IntKind.i64))]),(2,[.reg 10 (.dat Iq),.ent 2 (nat_lit 2) (.flat (Ty.int IntKind.i64))])],draws:=[(8,[],.u 0 19 (.alt 19 (.o [20,21] (.d 22)) .done)),(12,[],.u 0 14 (.d 14))]} Tryz.func322 ?_),
 (λq Q=>Hd Zx (Ze q (Ze Q Zn)) {loops:=[(0,[.reg 8 (.own (.ol 2 (.flat Iq))),.reg 9 (.dat Iq)])]} Tryz.func285 ?_),
 (Hd Zx Zn {loops:=[(0,[.reg 5 (.dat Iq)])],draws:=[(6,[],.u 0 13 .done)]} Tryz.func198 ?_),
 (λj b c f i q g Q=>Hd Qx (Ze j (Ze b (Ze c (Ze f (Ze i (Ze q (Ze g (Ze Q Zn)))))))) {draws:=[(5,[],.u 0 13 (.d 13)),(13,[],.u 0 9 (.d 9)),(16,[],.u 0 6 (.alt 6 (.op 7 (.d 8)) .done))]} Tryz.func66 ?_),
 (λg b i j q c f Q=>Hd Zx (Ze g (Ze b (Ze i (Ze j (Ze q (Ze c (Ze f (Ze Q Zn)))))))) {draws:=[(12,[],.u 0 12 (.alt 12 (.op 13 (.d 14)) .done))]} Tryz.func17 ?_),
 (λq Q=>Hd Zx (Ze q (Ze Q Zn)) {draws:=[(9,[],.u 0 4 (.alt 4 (.u 5 5 (.alt 10 (.u 11 13 (.alt 24 (.o [25,26] .done) .done)) .done)) .done))]} Tryz.func131 ?_),
 (λc f Q q g b=>Hd ZBo (Ze c (Ze f (Ze Q (Ze q (Ze g (Ze b Zn)))))) {draws:=[(7,[],.u 0 4 (.op 5 (.u 8 9 (.alt 4 (.o [6,7] (.d 17)) .done)))),(8,[],.o [0,1,2,5,6] (.alt 3 (.alt 4 (.a [7,8] (.op 9 .done)) (.a [7,4,8] (.op 9 .done))) (.a [7,3,4,8] (.op 9 .done)))),(9,[],.u 0 4 (.u 5 4 (.o [10,11,12] (.alt 4 (.alt 9 (.op 13 (.a [14,15] .done)) (.a [14,9] (.op 13 (.d 15)))) (.alt 9 (.alt 4 (.op 13 (.a [14,15] .done)) (.a [14,4] (.op 13 (.d 15)))) (.alt 14 (.alt 4 (.alt 9 (.op 13 (.d 15)) .done) (.a [9,4] (.op 13 (.d 15)))) .done)))))),(10,[],.u 0 6 (.op 8 (.alt 6 (.op 7 (.a [9,10] .done)) .done)))]} Tryz.func134 ?_),
 (λq=>Hd Qx (Ze q Zn) {loops:=[(0,[.reg 0 (.own (.ol 222 (.flat (ZcP)))),.reg 11 (.dat Iq)]),(2,[.reg 0 (.own (.ol 222 (.flat (ZcP)))),.reg 12 (.dat Iq)])]} Tryz.func108 ?_),
 (λQ b q=>Hd Zx (Ze Q (Ze b (Ze q Zn))) {loops:=[(0,[.reg 5 (.own (.ol 2 (.flat Iq))),.reg 8 (.dat Iq),.cell 0 0 (.sl (.int .u8)),.cell 0 1 Iq,.cell 0 2 Iq])]} Tryz.func88 ?_),
 (Hd Zx Zn {loops:=[(0,[.reg 8 (.own (.ol 2 (.flat Iq))),.ent 1 (nat_lit 4) (.flat ZyF.ety)]),(2,[.reg 11 (.dat Iq),.ent 3 (nat_lit 4) (.flat ZyF.ety)]),(4,[.reg 12 (.dat Iq)])]} Tryz.func181 ?_),
 (λq=>Hd Zx (Ze q Zn) {loops:=[(0,[.reg 5 (.dat Iq)])],draws:=[(4,[],.u 0 6 (.alt 6 (.u 7 17 .done) .done))]} Tryz.func179 ?_),
 (λq c Q b f=>Hd Zx (Ze q (Ze c (Ze Q (Ze b (Ze f Zn))))) {loops:=[(0,[.ent 3 (nat_lit 4) (.flat Ty.bool)]),(4,[.reg 9 (.own (.ol 2 (.flat Iq))),.reg 10 (.dat Iq)]),(2,[.reg 7 (.dat Iq),.reg 8 (.dat Iq),.ent 4 (nat_lit 38) (Dp.ol (2:Go.TypeId) (Dp.flat (Ty.int IntKind.i64)))])],draws:=[(10,[],.u 0 21 (.alt 21 (.u 22 10 (.alt 32 (.op 33 .done) .done)) .done))]} Tryz.func89 ?_),
 (λq Q=>Hd Zx (Ze q (Ze Q Zn)) {draws:=[(1,[],.o [0,1,3,4,5] (.alt 2 (.o [6,7] (.a [8,9] .done)) (.a [8,2] (.o [6,7] (.d 9))))),(2,[],.u 0 21 (.alt 21 (.op 22 (.alt 23 (.alt 24 (.op 25 .done) .done) (.a [24,23] (.op 25 .done)))) .done))]} Tryz.func283 ?_),
 (λq=>Hd Zx (Ze q Zn) {draws:=[(1,[],.o [0,1,3,4,5] (.alt 2 (.u 6 4 .done) .done))]} Tryz.func286 ?_),
 (λc b f Q q=>Hd Zx (Ze c (Ze b (Ze f (Ze Q (Ze q Zn))))) {} Tryz.func56 ?_),
 (λQ q b=>Hd Zx (Ze Q (Ze q (Ze b Zn))) {loops:=[(0,[.reg 5 (.own (.ol 74 (.flat (Qo)))),.reg 7 (.dat Iq),.cell 0 0 (.sl (.int .u8)),.cell 0 1 Iq,.cell 0 2 Iq]),(2,[.reg 5 (.own (.ol 74 (.flat (Qo)))),.reg 9 (.dat Iq),.cell 0 0 (.sl (.int .u8)),.cell 0 1 Iq,.cell 0 2 Iq])]} Tryz.func50 ?_),
 (Hd Zx Zn {} Tryz.func183 ?_),
 (λq Q=>Hd Zx (Ze q (Ze Q Zn)) {draws:=[(1,[],.u 0 5 (.u 6 5 (.alt 5 (.alt 11 (.op 12 (.a [13,14] .done)) (.a [13,11] (.op 12 (.d 14)))) (.a [13,5,11] (.op 12 (.d 14)))))),(2,[],.u 0 4 (.u 5 4 (.alt 4 (.alt 9 (.op 10 (.a [11,12] .done)) (.a [11,9] (.op 10 (.d 12)))) (.a [11,4,9] (.op 10 (.d 12)))))),(3,[],.u 0 7 (.alt 7 (.o [8,9] (.d 10)) .done)),(4,[],.u 0 7 (.alt 7 (.o [8,9] (.d 10)) .done)),(5,[],.u 0 6 (.alt 6 (.o [7,8] (.d 9)) .done)),(6,[],.u 0 6 (.alt 6 (.o [7,8] (.d 9)) .done)),(7,[],.op 0 (.alt 1 (.a [2,3] .done) (.a [2,1,3] .done)))]} Tryz.func182 ?_)⟩
 all_goals
  intro a;repeat rcases a with⟨_,a⟩
  rintro K ⟨r,h,k⟩;repeat'
    conv=>whnf
    first
    |with_reducible refine ZjM ?_
    |with_reducible refine Znp (by assumption) (by assumption) (by assumption) ?_
    |with_reducible refine ZO (by assumption) ?_
    |with_reducible refine ZnB (by assumption) ?_
    |(with_reducible refine shD ?_);first|refine Zdu h (λh=>?_) (λh=>?_)|refine ZFY h (λh=>?_) (λh=>?_)
    |(with_reducible refine ZFf ?_);first|refine ZqX ?_|refine ZqQ ?_
    |(with_reducible refine ZKd ?_);first|refine Zu3 h (λh=>?_) (λh=>?_)|refine ZFX h (λh=>?_) (λh=>?_)
    |(with_reducible refine ZFe ?_);(refine⟨λN=>?_,?_⟩)<;>try subst N
    |(with_reducible refine ZKf ?_);first|with_reducible refine Xt h (λx H h=>?_)|refine ZnB (by assumption) ?_|with_reducible refine pG h (λp h=>?_)|with_reducible refine pA h (λx n H m h=>?_)|with_reducible refine pB h (λx H h=>?_)|refine Xt h (λx H h=>?_)
    |(with_reducible refine ZKc ?_);first|with_reducible refine vAt h (λx n H m h=>?_)|refine Znp (by assumption) (by assumption) (by assumption) ?_|with_reducible refine pG h (λp h=>?_)|with_reducible refine pA h (λx n H m h=>?_)|with_reducible refine pB h (λx H h=>?_)|refine vAt h (λx n H m h=>?_)
    |(with_reducible refine ZFd ?_);first|with_reducible refine Zyw h (λx H h=>?_)|refine ZO (by assumption) ?_|with_reducible refine pG h (λp h=>?_)|with_reducible refine pA h (λx n H m h=>?_)|with_reducible refine pB h (λx H h=>?_)|refine Zyw h (λx H h=>?_)
    |with_reducible refine ZKe ?_
    |(with_reducible refine ZBa ?_);refine ZBA h k ?_;clear h k;intro I μ v r h k;(repeat rcases v with⟨_,v⟩);(try dsimp only at h)
    |with_reducible refine⟨by assumption,?_⟩
    |with_reducible refine orL ?_
    |with_reducible refine .inr ?_
    |(with_reducible refine ZFg ?_);first|refine⟨?_,True.intro⟩|refine⟨?_,?_⟩
    |refine⟨by kernel_rfl,?_⟩
    |refine⟨by decide,?_⟩
    |with_reducible refine Zro h (λp h=>?_)
    |intro F
    |exact trivial
    |with_reducible exact ZEy h
    |(refine pS h (λe=>?_));subst e;(repeat (first|exact k|exact⟨⟨rfl,rfl⟩,k.1 _ rfl⟩|(refine pR k (λe k=>?_));subst e));done
    |refine Zro h (λp h=>?_)
    |refine⟨by assumption,?_⟩
    |with_reducible refine pG h (λp h=>?_)|with_reducible refine pA h (λx n H m h=>?_)|with_reducible refine pB h (λx H h=>?_)
    |refine pG h (λp h=>?_)
    |fail
theorem ZN4 (Q:Sq 252 ZJr) (v:Sq 253 ZJs) (t:Sq 254 ZJt) (w:Sq 190 ZDL):Sq 187 ZJu:=by
 refine Hd Qx (Ze Q (Ze v (Ze t (Ze w Zn)))) {loops:=[(0,[.reg 19 (.dat Iq),.splt 1300 105 (Zh6)])],draws:=[(1,[],.o [0,1,3,4,6,7] (.alt 2 (.alt 5 (.alt 8 (.op 9 (.a [10,11] .done)) (.a [10,8] (.op 9 (.d 11)))) (.a [10,5,8] (.op 9 (.d 11)))) (.a [10,2,5,8] (.op 9 (.d 11))))),(5,[],.u 0 5 (.alt 5 (.o [6,7] (.d 8)) .done))]} Tryz.func187 ?_;rintro⟨D,⟨⟩⟩ K ⟨r,h,l⟩
 change ZaA D=some r at h
 unfold ZaA at h
 focus
  conv=>whnf
  refine⟨by kernel_rfl,?_⟩
  conv=>whnf
  obtain⟨Instance0,e,h⟩:=Uv.1 h;obtain⟨s,c,h⟩:=Uv.1 h;obtain⟨Port0,m,h⟩:=Uv.1 h;refine⟨?_,?_⟩;rotate_left
  focus
   conv=>whnf
   refine⟨_,e,?_⟩
   conv=>whnf
   refine⟨_,c,?_⟩
   conv=>whnf
   refine⟨_,m,?_⟩
   conv=>whnf
   refine⟨trivial,?_⟩
  rotate_right
  focus
   conv=>whnf
   refine⟨_,e,?_⟩
   conv=>whnf
   refine⟨?_,?_⟩;rotate_left
   focus
    conv=>whnf
    refine⟨_,c,?_⟩
    conv=>whnf
    refine⟨_,m,?_⟩
    conv=>whnf
    refine⟨trivial,?_⟩
   rotate_right
   focus
    conv=>whnf
    refine⟨_,c,?_⟩
    conv=>whnf
    refine⟨?_,?_⟩;rotate_left
    focus
     conv=>whnf
     refine⟨_,m,?_⟩
     conv=>whnf
     refine⟨trivial,?_⟩
    rotate_right
    focus
     conv=>whnf
     refine⟨_,m,?_⟩
     conv=>whnf
     refine⟨trivial,?_⟩
  all_goals
   conv=>whnf
   refine ZqP h ?_;rintro I3 A ⟨v0,l0,⟨⟩⟩ z h p f
   change VA Instance0 s Port0 v0 l0=some z at h
   unfold VA at h
   conv=>whnf
   intro _
   conv=>whnf
   refine Zdu h (λh=>?_) (λh=>?_)
   conv=>whnf
   refine vAt h (λX H b x h=>?_)
   conv=>whnf
   refine Zro h (λn h=>?_)
   conv=>whnf
   refine⟨H,b,ZO x ?_⟩
   conv=>whnf
   refine⟨by kernel_rfl,?_⟩
   conv=>whnf
   refine Xt h (λ_ _ h=>?_)
   conv=>whnf
   refine⟨H,b,ZO x ?_⟩
   conv=>whnf
   refine Zro h (λq h=>?_)
   conv=>whnf
   refine vAt h (λy g i j h=>?_)
   conv=>whnf
   refine⟨trivial,?_⟩
   conv=>whnf
   cases h;exact⟨⟨rfl,rfl⟩,p _ rfl⟩
   conv=>whnf
   refine Zro h (λk h=>?_)
   conv=>whnf
   cases h;obtain rfl:=f _ rfl;exact l
theorem w_laws_FnTopOfAll (g:Sq 3 Zom) (e:Sq 10 ZQl) (q:Sq 11 ZQn) (Q:Sq 12 ZQo) (f:Sq 9 ZJX):Sq 4 ZOJ:=by
 refine Hd Zx (Ze g (Ze e (Ze q (Ze Q (Ze f Zn))))) {} Tryz.func4 ?_;rintro⟨c,⟨⟩⟩ K ⟨r,h,k⟩
 change ZOi c=some r at h
 unfold ZOi at h
 conv=>whnf
 refine Zdu h (λh=>?_) (λh=>?_)
 conv=>whnf
 cases h;exact k
 conv=>whnf
 refine ZFY h (λh=>?_) (λh=>?_)
 conv=>whnf
 refine Xt h (λFnTop0 _ h=>?_)
 conv=>whnf
 cases h;exact k
 conv=>whnf
 refine vAt h (λX a b x h=>?_)
 conv=>whnf
 refine Zdu h (λh=>?_) (λh=>?_)
 conv=>whnf
 refine Xt h (λFnTop0 _ h=>?_)
 conv=>whnf
 cases h;exact k
 conv=>whnf
 refine⟨by decide,?_⟩
 conv=>whnf
 refine Zro h (λH h=>?_)
 conv=>whnf
 refine Zro h (λd h=>?_)
 conv=>whnf
 refine Xt h (λ_ _ h=>?_)
 iterate 3 ((conv=>whnf);intro _)
 conv=>whnf
 refine Xt h (λ_ _ h=>?_)
 conv=>whnf
 intro _
 conv=>whnf
 refine Xt h (λ_ _ h=>?_)
 conv=>whnf
 refine Xt h (λ_ _ h=>?_)
 conv=>whnf
 cases h;exact k
theorem ZN7 (q:Sq 197 ZJB):Sq 129 ZHJ:=by
 refine Hd Zx (Ze q Zn) {} Tryz.func129 ?_;rintro⟨s0,v0,⟨⟩⟩ K ⟨r,h,k⟩
 change Ym s0 v0=some r at h
 unfold Ym at h
 conv=>whnf
 refine Xt h (λ_ _ h=>?_)
 conv=>whnf
 cases h;exact k
theorem ZN6:Sq 197 ZJB:=by
 refine Hd Zx Zn {loops:=[(0,[.reg 8 (.dat Iq)])]} Tryz.func197 ?_;rintro⟨s0,v0,⟨⟩⟩ K ⟨r,h,k⟩
 change XM s0 v0=some r at h
 unfold XM at h
 conv=>whnf
 refine ZqP h ?_;rintro I0 c ⟨v1,⟨⟩⟩ z h A H
 change YA s0 v0 v1=some z at h
 unfold YA at h
 conv=>whnf
 refine Zdu h (λh=>?_) (λh=>?_)
 conv=>whnf
 refine vAt h (λX a b x h=>?_)
 conv=>whnf
 refine Zdu h (λh=>?_) (λh=>?_)
 conv=>whnf
 cases h;obtain rfl:=H _ rfl;exact k
 conv=>whnf
 cases h;exact⟨⟨rfl,rfl⟩,A _ rfl⟩
 conv=>whnf
 cases h;obtain rfl:=H _ rfl;exact k
theorem ZN2 (n:Sq 48 c83) (s:Sq 41 c35) (t:Sq 16 c2) (m:Sq 15 c65) (p:Sq 49 c84) (Q:Sq 50 c82) (v:Sq 17 c38) (q:Sq 24 ZHt):Sq 18 ZIh:=by
 refine Hd Zx (Ze n (Ze s (Ze t (Ze m (Ze p (Ze Q (Ze v (Ze q Zn)))))))) {draws:=[(3,[],.o [1,2] (.ld 0 (.alt 3 (.alt 4 (.u 5 4 (.a [9,10] (.o [11,12] .done))) (.a [9,4] (.u 5 4 (.alt 10 (.o [11,12] .done) .done)))) (.a [9,3,4] (.u 5 4 (.alt 10 (.o [11,12] .done) .done)))))),(11,[],.o [0,3] (.alt 1 (.alt 2 (.alt 4 (.a [5,6,7] (.op 8 (.d 9))) (.alt 5 (.alt 4 (.a [6,7] (.op 8 (.d 9))) (.alt 6 (.alt 4 (.alt 7 (.op 8 (.d 9)) .done) (.alt 7 (.op 8 (.a [4,9] .done)) .done)) .done)) .done)) (.alt 4 (.alt 2 (.a [5,6,7] (.op 8 (.d 9))) (.alt 5 (.alt 2 (.a [6,7] (.op 8 (.d 9))) (.a [6,2,7] (.op 8 (.d 9)))) .done)) (.alt 5 (.alt 2 (.alt 4 (.a [6,7] (.op 8 (.d 9))) (.alt 6 (.alt 4 (.alt 7 (.op 8 (.d 9)) .done) (.alt 7 (.op 8 (.a [4,9] .done)) .done)) .done)) (.alt 4 (.alt 2 (.a [6,7] (.op 8 (.d 9))) (.a [6,2,7] (.op 8 (.d 9)))) (.alt 6 (.alt 2 (.alt 4 (.alt 7 (.op 8 (.d 9)) .done) (.alt 7 (.op 8 (.a [4,9] .done)) .done)) (.a [4,2,7] (.op 8 (.d 9)))) .done))) .done))) (.alt 2 (.alt 1 (.alt 4 (.a [5,6,7] (.op 8 (.d 9))) (.alt 5 (.alt 4 (.a [6,7] (.op 8 (.d 9))) (.alt 6 (.alt 4 (.alt 7 (.op 8 (.d 9)) .done) (.alt 7 (.op 8 (.a [4,9] .done)) .done)) .done)) .done)) (.alt 4 (.alt 1 (.a [5,6,7] (.op 8 (.d 9))) (.a [5,1,6,7] (.op 8 (.d 9)))) (.alt 5 (.alt 1 (.alt 4 (.a [6,7] (.op 8 (.d 9))) (.alt 6 (.alt 4 (.alt 7 (.op 8 (.d 9)) .done) (.alt 7 (.op 8 (.a [4,9] .done)) .done)) .done)) (.a [4,1,6,7] (.op 8 (.d 9)))) .done))) (.alt 4 (.alt 1 (.alt 2 (.a [5,6,7] (.op 8 (.d 9))) (.alt 5 (.alt 2 (.a [6,7] (.op 8 (.d 9))) (.a [6,2,7] (.op 8 (.d 9)))) .done)) (.alt 2 (.alt 1 (.a [5,6,7] (.op 8 (.d 9))) (.a [5,1,6,7] (.op 8 (.d 9)))) (.alt 5 (.alt 1 (.alt 2 (.a [6,7] (.op 8 (.d 9))) (.a [6,2,7] (.op 8 (.d 9)))) (.a [2,1,6,7] (.op 8 (.d 9)))) .done))) (.alt 5 (.alt 1 (.alt 2 (.alt 4 (.a [6,7] (.op 8 (.d 9))) (.alt 6 (.alt 4 (.alt 7 (.op 8 (.d 9)) .done) (.alt 7 (.op 8 (.a [4,9] .done)) .done)) .done)) (.alt 4 (.alt 2 (.a [6,7] (.op 8 (.d 9))) (.a [6,2,7] (.op 8 (.d 9)))) (.alt 6 (.alt 2 (.alt 4 (.alt 7 (.op 8 (.d 9)) .done) (.alt 7 (.op 8 (.a [4,9] .done)) .done)) (.a [4,2,7] (.op 8 (.d 9)))) .done))) (.alt 2 (.alt 1 (.alt 4 (.a [6,7] (.op 8 (.d 9))) (.alt 6 (.alt 4 (.alt 7 (.op 8 (.d 9)) .done) (.alt 7 (.op 8 (.a [4,9] .done)) .done)) .done)) (.a [4,1,6,7] (.op 8 (.d 9)))) (.alt 4 (.alt 1 (.alt 2 (.a [6,7] (.op 8 (.d 9))) (.a [6,2,7] (.op 8 (.d 9)))) (.a [2,1,6,7] (.op 8 (.d 9)))) .done))) .done)))))]} Tryz.func18 ?_;rintro⟨a0,⟨⟩⟩ K ⟨r,h,k⟩
 change Zfy a0=some r at h
 unfold Zfy at h
 conv=>whnf
 refine Xt h (λ_ _ h=>?_)
 conv=>whnf
 refine Xt h (λ_ _ h=>?_)
 conv=>whnf
 refine Zu3 h (λh=>?_) (λh=>?_)
 conv=>whnf
 refine Xt h (λL _ h=>?_)
 conv=>whnf
 refine Zdu h (λh=>?_) (λh=>?_)
 focus
  iterate 2 ((conv=>whnf);refine⟨by kernel_rfl,?_⟩)
  conv=>whnf
  obtain⟨c,i,h⟩:=Uv.1 h;obtain⟨ApplyEdits0,H,h⟩:=Uv.1 h;refine⟨?_,?_⟩;rotate_left
  focus
   conv=>whnf
   refine⟨by kernel_rfl,?_⟩
   conv=>whnf
   refine⟨_,i,?_⟩
   conv=>whnf
   intro g
   conv=>whnf
   refine⟨_,H,?_⟩
   conv=>whnf
   intro f
   conv=>whnf
   intro F
   conv=>whnf
   intro e
   conv=>whnf
   refine⟨trivial,?_⟩
  rotate_right
  focus
   conv=>whnf
   refine⟨by kernel_rfl,?_⟩
   conv=>whnf
   refine⟨_,i,?_⟩
   conv=>whnf
   intro g
   conv=>whnf
   refine⟨?_,?_⟩;rotate_left
   focus
    conv=>whnf
    refine⟨_,H,?_⟩
    conv=>whnf
    intro f
    conv=>whnf
    intro F
    conv=>whnf
    intro e
    conv=>whnf
    refine⟨trivial,?_⟩
   rotate_right
   focus
    conv=>whnf
    refine⟨_,H,?_⟩
    conv=>whnf
    intro f
    conv=>whnf
    intro F
    conv=>whnf
    intro e
    conv=>whnf
    refine⟨trivial,?_⟩
  all_goals
   conv=>whnf
   refine Xt h (λ_ _ h=>?_)
   conv=>whnf
   refine Xt h (λl _ h=>?_)
   conv=>whnf
   refine Xt h (λPropagateTiming0 j h=>?_)
   conv=>whnf
   refine Xt h (λb _ h=>?_)
   conv=>whnf
   refine Zdu h (λh=>?_) (λh=>?_)
   focus
    conv=>whnf
    refine⟨λN=>absurd N (by decide),λ_=>?_⟩;rw[Ue (by decide)]at h
    conv=>whnf
    refine⟨by kernel_rfl,?_⟩
    conv=>whnf
    repeat' (first|with_reducible refine ZjM ?_|((conv=>whnf);first|with_reducible refine ZjM ?_|refine⟨?_,?_⟩|fail)|fail)
    all_goals
     conv=>whnf
     cases h;exact k
   focus
    conv=>whnf
    refine⟨by kernel_rfl,?_⟩
    conv=>whnf
    repeat' (first|with_reducible refine ZjM ?_|((conv=>whnf);first|with_reducible refine ZjM ?_|refine⟨?_,?_⟩|fail)|fail)
    all_goals
     conv=>whnf
     cases h;exact k
 conv=>whnf
 refine Xt h (λl _ h=>?_)
 conv=>whnf
 refine Xt h (λPropagateTiming0 _ h=>?_)
 conv=>whnf
 refine Xt h (λb _ h=>?_)
 conv=>whnf
 refine Zdu h (λh=>?_) (λh=>?_)
 conv=>whnf
 refine Zdu h (λh=>?_) (λh=>?_)
 focus
  conv=>whnf
  refine Xt h (λPropagateTiming1 _ h=>?_)
  conv=>whnf
  refine⟨by kernel_rfl,?_⟩
  conv=>whnf
  repeat' (first|with_reducible refine ZjM ?_|((conv=>whnf);first|with_reducible refine ZjM ?_|refine⟨?_,?_⟩|fail)|fail)
  all_goals
   conv=>whnf
   cases h;exact k
 focus
  conv=>whnf
  refine⟨by kernel_rfl,?_⟩
  conv=>whnf
  repeat' (first|with_reducible refine ZjM ?_|((conv=>whnf);first|with_reducible refine ZjM ?_|refine⟨?_,?_⟩|fail)|fail)
  all_goals
   conv=>whnf
   cases h;exact k
 focus
  conv=>whnf
  refine⟨by kernel_rfl,?_⟩
  conv=>whnf
  repeat' (first|with_reducible refine ZjM ?_|((conv=>whnf);first|with_reducible refine ZjM ?_|refine⟨?_,?_⟩|fail)|fail)
  all_goals
   conv=>whnf
   cases h;exact k
 conv=>whnf
 refine Xt h (λl _ h=>?_)
 conv=>whnf
 refine Xt h (λPropagateTiming0 _ h=>?_)
 conv=>whnf
 refine Xt h (λL _ h=>?_)
 conv=>whnf
 refine Zdu h (λh=>?_) (λh=>?_)
 conv=>whnf
 refine Zdu h (λh=>?_) (λh=>?_)
 focus
  conv=>whnf
  refine Xt h (λPropagateTiming1 _ h=>?_)
  conv=>whnf
  refine⟨by kernel_rfl,?_⟩
  conv=>whnf
  repeat' (first|with_reducible refine ZjM ?_|((conv=>whnf);first|with_reducible refine ZjM ?_|refine⟨?_,?_⟩|fail)|fail)
  all_goals
   conv=>whnf
   cases h;exact k
 focus
  conv=>whnf
  refine⟨by kernel_rfl,?_⟩
  conv=>whnf
  repeat' (first|with_reducible refine ZjM ?_|((conv=>whnf);first|with_reducible refine ZjM ?_|refine⟨?_,?_⟩|fail)|fail)
  all_goals
   conv=>whnf
   cases h;exact k
 focus
  conv=>whnf
  refine⟨by kernel_rfl,?_⟩
  conv=>whnf
  repeat' (first|with_reducible refine ZjM ?_|((conv=>whnf);first|with_reducible refine ZjM ?_|refine⟨?_,?_⟩|fail)|fail)
  all_goals
   conv=>whnf
   cases h;exact k
end Go.Proofs.YtoijdogpgpbddaaGreatDoor
