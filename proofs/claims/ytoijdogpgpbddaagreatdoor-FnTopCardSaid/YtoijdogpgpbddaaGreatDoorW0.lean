/-
  The functions keep their contracts, if what they call does. Printed by program.
-/
import Derived.Test.YtoijdogpgpbddaaGreatDoorM
import Derived.KernelRfl
namespace Go.Proofs.YtoijdogpgpbddaaGreatDoor
open Go Go.Sx
set_option maxRecDepth 100000
set_option maxHeartbeats 100000000
set_option linter.unusedVariables false
set_option linter.unusedSimpArgs false
structure Ws0:Prop where
 w219:Sq 332 ZI1
 w271:Sq 60 ZF8->Sq 61 ZGa->Sq 25 ZJw
 w177:Sq 205 ZIJ
 w178:Sq 205 ZIJ->Sq 140 ZIK
 w264:Sq 117 c171->Sq 120 ZF9
 w269:Sq 120 ZF9->Sq 117 c171->Sq 188 ZEm->Sq 189 ZHw->Sq 121 ZGB->Sq 122 ZGC->Sq 119 ZHF
 w151:Sq 337 ZIu->Sq 338 ZIw->Sq 312 ZIx
 w142:Sq 364 ZIs
 w155:Sq 338 c154->Sq 341 ZIz
 w159:Sq 266 ZGx->Sq 221 c159
 w249:Sq 295 c124->Sq 247 ZJj
 w270:Sq 116 ZHD->Sq 117 c171->Sq 118 ZJv->Sq 119 ZHF->Sq 120 ZF9->Sq 121 ZGB->Sq 122 ZGC->Sq 123 ZGA->Sq 61 ZGa
 w252:Sq 184 ZJc->Sq 185 ZJl->Sq 115 ZJm
 w251:Sq 117 c171->Sq 244 ZJf->Sq 245 ZHC->Sq 161 ZF5->Sq 246 ZJi->Sq 247 ZJj->Sq 248 ZJk->Sq 141 ZEl->Sq 160 c173->Sq 185 ZJl
 w272:Sq 146 ZHE->Sq 117 c171->Sq 70 ZHG
 w296:Sq 60 ZF8->Sq 67 ZJQ->Sq 28 ZJR
 w167:Sq 225 c167
 w236:Sq 54 ZHz->Sq 55 ZI7->Sq 23 c236
 w175:Sq 162 c175
 w126:Sq 161 ZF5->Sq 314 ZIl->Sq 266 ZGx
 w141:Sq 359 ZIr->Sq 350 c141
 w130:Sq 208 ZtO->Sq 230 c130
 w274:Sq 72 ZHH
 w224:Sq 279 ZF7
 w242:Sq 292 ZJd
 w201:Sq 170 ZIT->Sq 169 c201
 w203:Sq 231 c203
 w200:Sq 170 ZIT
 w135:Sq 141 ZEl->Sq 208 ZtO->Sq 166 ZDK->Sq 168 ZGy->Sq 366 ZIo
 w245:Sq 245 ZHC
 w134:Sq 168 ZGy
 w122:Sq 208 ZtO->Sq 227 ZlK->Sq 228 Zh3->Sq 161 ZF5
 w195:Sq 167 ZIQ
 w229:Sq 321 c229
 w207:Sq 95 ZHv->Sq 96 ZII->Sq 68 ZF6->Sq 97 c194->Sq 98 c196->Sq 69 c198->Sq 99 ZIS->Sq 100 c206->Sq 54 ZHz
 w282:Sq 163 ZDM->Sq 166 ZDK->Sq 168 ZGy->Sq 125 ZJD
 w198:Sq 144 ZIR->Sq 103 ZEn->Sq 145 c193->Sq 69 c198
 w228:Sq 237 ZGz->Sq 277 c218->Sq 278 ZHB->Sq 279 ZF7->Sq 281 c226->Sq 280 c227->Sq 236 c228
 w199:Sq 99 ZIS
 w196:Sq 167 ZIQ->Sq 166 ZDK->Sq 168 ZGy->Sq 98 c196
 w197:Sq 163 ZDM->Sq 208 ZtO->Sq 144 ZIR
 w194:Sq 163 ZDM->Sq 164 ZHy->Sq 165 ZIN->Sq 103 ZEn->Sq 145 c193->Sq 97 c194
 w231:Sq 237 ZGz->Sq 277 c218->Sq 278 ZHB->Sq 282 ZI5->Sq 238 ZI6
 w230:Sq 321 c229->Sq 279 ZF7->Sq 282 ZI5
 w121:Sq 208 ZtO
 w67:Sq 8 c67
 w298:Sq 73 ZJS->Sq 30 ZJT
 w301:Sq 147 ZHK->Sq 75 ZJV
 w283:Sq 191 ZJE
 w260:Sq 254 ZJt
 w259:Sq 253 ZJs
 w150:Sq 353 ZIv->Sq 338 ZIw
 w140:Sq 365 c139->Sq 359 ZIr
 w169:Sq 268 c168->Sq 224 ZIE
 w238:Sq 326 ZI9
 w153:Sq 354 c152->Sq 353 ZIy
 w247:Sq 294 ZJg->Sq 293 ZJh
 w168:Sq 225 c167->Sq 268 c168
 w66:Sq 13 c1->Sq 14 c19->Sq 15 c65->Sq 16 c2->Sq 17 c38->Sq 6 c66
 w115:Sq 13 c1->Sq 18 ZIh->Sq 7 ZIi
 w120:Sq 51 c33->Sq 53 c72->Sq 21 ZIk
 w118:Sq 52 c117->Sq 20 ZIj
 w24:Sq 348 c23->Sq 94 c21->Sq 335 c24
 w25:Sq 335 c24->Sq 310 c25
 w1:Sq 13 c1
 w27:Sq 94 c21->Sq 264 c26->Sq 218 c27
 w9:Sq 16 c2->Sq 213 c7->Sq 153 c9
 w52:Sq 40 c16->Sq 263 c51->Sq 216 c52
 w22:Sq 158 c20->Sq 94 c21->Sq 217 c22
 w12:Sq 16 c2->Sq 45 c11->Sq 83 c12
 w72:Sq 42 c13->Sq 53 c72
 w13:Sq 42 c13
 w14:Sq 42 c13->Sq 47 c14
 w102:Sq 322 c96->Sq 324 ZHs
 w18:Sq 82 c10->Sq 83 c12->Sq 47 c14->Sq 46 c17->Sq 39 c18
 w17:Sq 16 c2->Sq 85 c15->Sq 40 c16->Sq 46 c17
 w96:Sq 40 c16->Sq 42 c13->Sq 47 c14->Sq 346 c95->Sq 322 c96
 w107:Sq 324 ZHs->Sq 325 ZIc->Sq 287 c99->Sq 289 c107
 w62:Sq 90 c56->Sq 42 c13->Sq 133 c60->Sq 134 c61->Sq 135 c57->Sq 136 c58->Sq 137 c59->Sq 138 c55->Sq 66 c62
 w46:Sq 259 c46
 w58:Sq 136 c58
 w38:Sq 41 c35->Sq 42 c13->Sq 16 c2->Sq 43 c36->Sq 44 c37->Sq 45 c11->Sq 47 c14->Sq 46 c17->Sq 17 c38
 w40:Sq 42 c13->Sq 94 c21->Sq 131 c40
 w61:Sq 135 c57->Sq 47 c14->Sq 42 c13->Sq 136 c58->Sq 40 c16->Sq 137 c59->Sq 134 c61
 w71:Sq 109 c70->Sq 108 c71
 w74:Sq 41 c35->Sq 16 c2->Sq 57 c73->Sq 88 c74
 w75:Sq 114 c75
 w91:Sq 181 c91
 w70:Sq 109 c70
 w86:Sq 94 c21->Sq 179 c86
 w81:Sq 57 c73->Sq 59 c76->Sq 111 c77->Sq 154 c80->Sq 114 c75->Sq 89 c81
 w79:Sq 215 c79
 w97:Sq 42 c13->Sq 322 c96->Sq 283 c97
 w104:Sq 288 ZIb
 w82:Sq 41 c35->Sq 42 c13->Sq 16 c2->Sq 50 c82
 w89:Sq 180 c89
 w109:Sq 239 c105->Sq 240 ZId->Sq 182 c109
set_option maxHeartbeats 100000000 in
theorem ws0:Ws0:=by
 refine ⟨(Hc Zx Zn {} Tryz.func332 ?_),
 (λQ q=>Hc Zx (Ze Q (Ze q Zn)) {} Tryz.func25 ?_),
 (Hc Zx Zn {} Tryz.func205 ?_),
 (λq=>Hc Zx (Ze q Zn) {loops:=[(0,[.reg 7 (.own (.ol 222 (.flat (ZcP)))),.reg 21 (.dat Iq)]),(2,[.reg 7 (.own (.ol 222 (.flat (ZcP)))),.reg 29 (.dat Iq)])]} Tryz.func140 ?_),
 (λq=>Hc Zx (Ze q Zn) {loops:=[(0,[.reg 16 (.dat Iq),.entm 1 (Zv6.ty) (Zv6.ety),.ent 2 (nat_lit 3) (.flat Zto.ety)])],draws:=[(7,[],.u 0 20 (.d 20))]} Tryz.func120 ?_),
 (λq Q b f g c=>Hc ZBo (Ze q (Ze Q (Ze b (Ze f (Ze g (Ze c Zn)))))) {draws:=[(4,[],.u 0 10 (.alt 10 (.op 11 (.alt 12 (.u 13 4 (.a [17,18] .done)) (.a [17,12] (.u 13 4 (.d 18))))) (.a [17,10] (.op 11 (.alt 12 (.u 13 4 (.d 18)) .done))))),(6,[],.o [0,2,3,4] (.alt 1 (.a [5,6] .done) (.a [5,1,6] .done))),(7,[],.u 0 13 (.d 13)),(9,[],.u 0 13 (.alt 13 (.o [14,15,16] (.d 17)) .done)),(10,[],.u 0 11 (.alt 11 (.o [12,13] (.d 14)) .done))]} Tryz.func119 ?_),
 (λQ q=>Hc Zx (Ze Q (Ze q Zn)) {loops:=[(0,[.reg 8 (.dat Iq)])]} Tryz.func312 ?_),
 (Hc Zx Zn {} Tryz.func364 ?_),
 (λq=>Hc Zx (Ze q Zn) {} Tryz.func341 ?_),
 (λq=>Hc Zx (Ze q Zn) {loops:=[(0,[.reg 3 (.own (.ol 9 (.flat (.str)))),.reg 12 (.dat Iq)]),(2,[.reg 4 (.own (.ol 9 (.flat (.str)))),.reg 25 (.dat Iq)])]} Tryz.func221 ?_),
 (λq=>Hc Zx (Ze q Zn) {} Tryz.func247 ?_),
 (λi Q f q b g c j=>Hc Qx (Ze i (Ze Q (Ze f (Ze q (Ze b (Ze g (Ze c (Ze j Zn)))))))) {draws:=[(4,[],.u 0 5 (.o [6,7,11,12] (.alt 5 (.o [8,9,10,13,14] (.d 15)) .done))),(11,[],.o [0,1,3,4] (.alt 2 (.o [5,6] (.a [7,8] .done)) (.a [7,2] (.o [5,6] (.d 8))))),(17,[],.u 0 6 (.alt 6 (.op 7 (.d 8)) .done))]} Tryz.func61 ?_),
 (λQ q=>Hc Zx (Ze Q (Ze q Zn)) {} Tryz.func115 ?_),
 (λb g i j c Q q f s=>Hc Zx (Ze b (Ze g (Ze i (Ze j (Ze c (Ze Q (Ze q (Ze f (Ze s Zn))))))))) {draws:=[(6,[],.u 0 27 (.alt 27 (.o [28,29] .done) .done)),(12,[],.u 0 19 .done),(13,[],.u 0 9 (.a [9,10] (.op 11 .done)))]} Tryz.func185 ?_),
 (λq Q=>Hc Zx (Ze q (Ze Q Zn)) {loops:=[(0,[.reg 5 (.own (.ol 2 (.flat Iq))),.reg 19 (.dat Iq)])]} Tryz.func70 ?_),
 (λQ q=>Hc Zx (Ze Q (Ze q Zn)) {} Tryz.func28 ?_),
 (Hc Zx Zn {} Tryz.func225 ?_),
 (λQ q=>Hc Zx (Ze Q (Ze q Zn)) {} Tryz.func23 ?_),
 (Hc Zx Zn {} Tryz.func162 ?_),
 (λQ q=>Hc Zx (Ze Q (Ze q Zn)) {loops:=[(0,[.reg 7 (.dat Iq)])]} Tryz.func266 ?_),
 (λq=>Hc Zx (Ze q Zn) {} Tryz.func350 ?_),
 (λq=>Hc Zx (Ze q Zn) {} Tryz.func230 ?_),
 (Hc Zx Zn {} Tryz.func72 ?_),
 (Hc Zx Zn {draws:=[(1,[],.u 0 8 .done)]} Tryz.func279 ?_),
 (Hc Zx Zn {} Tryz.func292 ?_),
 (λq=>Hc Zx (Ze q Zn) {loops:=[(0,[.reg 5 (.own (.ol 2 (.flat Iq))),.reg 16 (.dat Iq)])]} Tryz.func169 ?_),
 (Hc Zx Zn {} Tryz.func231 ?_),
 (Hc Zx Zn {} Tryz.func170 ?_),
 (λq c b Q=>Hc Zx (Ze q (Ze c (Ze b (Ze Q Zn)))) {} Tryz.func366 ?_),
 (Hc Zx Zn {} Tryz.func245 ?_),
 (Hc Zx Zn {loops:=[(0,[.reg 3 (.dat Iq)])],draws:=[(4,[],.u 0 10 .done)]} Tryz.func168 ?_),
 (λb Q q=>Hc Zx (Ze b (Ze Q (Ze q Zn))) {} Tryz.func161 ?_),
 (Hc Zx Zn {} Tryz.func167 ?_),
 (Hc Zx Zn {loops:=[(0,[.reg 3 (.dat Iq),.reg 4 (.dat Iq)])]} Tryz.func321 ?_),
 (λi g j Q b q c f=>Hc Zx (Ze i (Ze g (Ze j (Ze Q (Ze b (Ze q (Ze c (Ze f Zn)))))))) {} Tryz.func54 ?_),
 (λQ b q=>Hc Zx (Ze Q (Ze b (Ze q Zn))) {} Tryz.func125 ?_),
 (λq b Q=>Hc Zx (Ze q (Ze b (Ze Q Zn))) {loops:=[(0,[.reg 9 (.dat Iq)])],draws:=[(4,[],.o [0,1,2] (.alt 3 (.u 4 4 (.alt 8 (.u 9 5 (.alt 14 (.u 15 17 .done) .done)) .done)) .done))]} Tryz.func69 ?_),
 (λb c Q f q g=>Hc Zx (Ze b (Ze c (Ze Q (Ze f (Ze q (Ze g Zn)))))) {draws:=[(5,[],.o [0,1,4,5,6] (.u 9 9 (.alt 2 (.o [3,7,8] (.alt 18 (.op 19 .done) .done)) .done))),(6,[],.u 0 12 (.alt 12 (.op 13 .done) .done))]} Tryz.func236 ?_),
 (Hc Zx Zn {loops:=[(0,[.reg 23 (.dat Iq),.ent 0 (nat_lit 4) (.flat ZyF.ety)]),(2,[.reg 35 (.dat Iq),.ent 0 (nat_lit 4) (.flat ZyF.ety)])]} Tryz.func99 ?_),
 (λq b Q=>Hc Zx (Ze q (Ze b (Ze Q Zn))) {} Tryz.func98 ?_),
 (λq Q=>Hc Zx (Ze q (Ze Q Zn)) {} Tryz.func144 ?_),
 (λb Q q f c=>Hc Zx (Ze b (Ze Q (Ze q (Ze f (Ze c Zn))))) {loops:=[(0,[.reg 32 (.dat Iq)])]} Tryz.func97 ?_),
 (λQ b q c=>Hc Zx (Ze Q (Ze b (Ze q (Ze c Zn)))) {draws:=[(4,[],.o [0,1,4,5,6] (.u 9 9 (.alt 2 (.o [3,7,8] (.alt 18 (.o [19,20] .done) .done)) .done))),(5,[],.u 0 13 (.alt 13 (.o [14,15] .done) .done))]} Tryz.func238 ?_),
 (λQ q=>Hc Zx (Ze Q (Ze q Zn)) {} Tryz.func282 ?_),
 (Hc Zx Zn {} Tryz.func208 ?_),
 (Hc Zx Zn {} Tryz.func8 ?_),
 (λq=>Hc Zx (Ze q Zn) {loops:=[(0,[.reg 5 (.dat Iq)])],draws:=[(6,[],.u 0 11 .done)]} Tryz.func30 ?_),
 (λq=>Hc Zx (Ze q Zn) {} Tryz.func75 ?_),
 (Hc Zx Zn {} Tryz.func191 ?_),
 (Hc Zx Zn {} Tryz.func254 ?_),
 (Hc Zx Zn {} Tryz.func253 ?_),
 (λq=>Hc Zx (Ze q Zn) {} Tryz.func338 ?_),
 (λq=>Hc Zx (Ze q Zn) {} Tryz.func359 ?_),
 (λq=>Hc Zx (Ze q Zn) {} Tryz.func224 ?_),
 (Hc Zx Zn {loops:=[(0,[.reg 13 (.dat Iq)])],draws:=[(6,[],.u 0 9 .done)]} Tryz.func326 ?_),
 (λq=>Hc Zx (Ze q Zn) {loops:=[(0,[.reg 8 (.dat Iq)])]} Tryz.func353 ?_),
 (λq=>Hc Zx (Ze q Zn) {loops:=[(0,[.reg 8 (.dat Iq)])]} Tryz.func293 ?_),
 (λq=>Hc Zx (Ze q Zn) {loops:=[(0,[.reg 8 (.dat Iq)])]} Tryz.func268 ?_),
 (λb Q q c f=>Hc Qx (Ze b (Ze Q (Ze q (Ze c (Ze f Zn))))) {} Tryz.func6 ?_),
 (λq Q=>Hc Zx (Ze q (Ze Q Zn)) {} Tryz.func7 ?_),
 (λQ q=>Hc Zx (Ze Q (Ze q Zn)) {} Tryz.func21 ?_),
 (λq=>Hc Zx (Ze q Zn) {draws:=[(4,[],.u 0 6 .done)]} Tryz.func20 ?_),
 (λq Q=>Hc Zx (Ze q (Ze Q Zn)) {loops:=[(0,[.reg 3 (.dat Iq)])]} Tryz.func335 ?_),
 (λq=>Hc Zx (Ze q Zn) {loops:=[(0,[.reg 5 (.dat Iq),.cell 1004 0 Iq,.cell 1004 1 Iq])],draws:=[(3,[],.u 0 9 (.a [9,10] .done)),(7,[],.u 0 9 (.d 9)),(8,[],.u 0 9 (.d 9))]} Tryz.func310 ?_),
 (Hc Zx Zn {loops:=[(0,[.reg 4 (.dat Iq),.cell 1007 2 Iq])],draws:=[(5,[],.u 0 10 (.alt 10 (.u 11 4 (.d 15)) .done))]} Tryz.func13 ?_),
 (λQ q=>Hc Zx (Ze Q (Ze q Zn)) {} Tryz.func218 ?_),
 (λQ q=>Hc Qx (Ze Q (Ze q Zn)) {} Tryz.func153 ?_),
 (λQ q=>Hc Qx (Ze Q (Ze q Zn)) {loops:=[(0,[.reg 4 (.dat Iq),.cello 1003 3 (.ol 186 (ZDQ))])],draws:=[(1,[],.o [0,2,5,6,8,11,13] (.l [1,3,9,12,14] (.alt 4 (.alt 7 (.alt 10 (.op 15 (.a [16,17] .done)) (.a [16,10] (.op 15 (.d 17)))) (.a [16,7,10] (.op 15 (.d 17)))) (.a [16,4,7,10] (.op 15 (.d 17))))))]} Tryz.func216 ?_),
 (λq Q=>Hc Zx (Ze q (Ze Q Zn)) {loops:=[(0,[.reg 5 (.dat Iq),.reg 6 (.dat Iq)]),(2,[.reg 8 (.dat Iq)])],draws:=[(12,[],.u 0 9 .done)]} Tryz.func217 ?_),
 (λQ q=>Hc Qx (Ze Q (Ze q Zn)) {loops:=[(0,[.reg 9 (.own (.ol 105 (Zh6))),.reg 10 (.own (.ol 9 (.flat (.str)))),.reg 11 (.dat Iq),.cell 1000 0 (.sl (.int .u8)),.cell 1000 1 Iq,.cell 1000 2 Iq]),(2,[.reg 14 (.dat Iq),.cell 1000 0 (.sl (.int .u8)),.cell 1000 1 Iq,.cell 1000 2 Iq,.cello 1013 2 (.ol 2 (.flat Iq))]),(4,[.reg 16 (.dat Iq),.cell 1000 0 (.sl (.int .u8)),.cell 1000 1 Iq,.cell 1000 2 Iq,.ent 9 (nat_lit 105) (Dp.pair (Dp.flat Ty.str) (Dp.pair (Dp.flat (Ty.int IntKind.i64)) (Dp.pair (Dp.ol (2:Go.TypeId) (Dp.flat (Ty.int IntKind.i64))) (Dp.flat Ty.unit))))])],draws:=[(27,[],.u 0 4 (.u 5 4 (.alt 4 (.alt 9 (.o [10,11] (.d 12)) .done) (.alt 9 (.op 10 (.alt 4 (.op 11 (.d 12)) .done)) .done))))]} Tryz.func83 ?_),
 (λq=>Hc Zx (Ze q Zn) {loops:=[(0,[.reg 6 (.dat Iq)])]} Tryz.func53 ?_),
 (Hc Zx Zn {loops:=[(0,[.reg 3 (.own (.ol 117 (.flat (Zgm)))),.reg 4 (.dat Iq)]),(2,[.reg 3 (.own (.ol 117 (.flat (Zgm)))),.reg 6 (.dat Iq)]),(4,[.reg 3 (.own (.ol 117 (.flat (Zgm)))),.reg 7 (.dat Iq)])],draws:=[(13,[],.u 0 16 (.a [16,17] (.op 18 .done)))]} Tryz.func42 ?_),
 (λq=>Hc Zx (Ze q Zn) {loops:=[(0,[.reg 5 (.own (.ol 2 (.flat Iq))),.reg 7 (.dat Iq)])]} Tryz.func47 ?_),
 (λq=>Hc Zx (Ze q Zn) {loops:=[(0,[.reg 7 (.own (.ol 2 (.flat Iq))),.reg 8 (.dat Iq)])],draws:=[(7,[],.u 0 20 (.a [20,21] (.op 22 .done)))]} Tryz.func324 ?_),
 (λb c Q q=>Hc Qx (Ze b (Ze c (Ze Q (Ze q Zn)))) {loops:=[(0,[.reg 9 (.own (.ol 40 (ZoN))),.reg 10 (.dat Iq),.cell 0 0 (.sl (.int .u8)),.cell 0 1 Iq,.cell 0 2 Iq])]} Tryz.func39 ?_),
 (λQ q b=>Hc Zx (Ze Q (Ze q (Ze b Zn))) {loops:=[(0,[.reg 6 (.dat Iq),.cell 1000 0 (.sl (.int .u8)),.cell 1000 1 Iq,.cell 1000 2 Iq,.cello 1005 0 (.ol (nat_lit 2) (.flat (Ty.int IntKind.i64))),.cello 1005 1 (.ol (nat_lit 2) (.flat (Ty.int IntKind.i64))),.cello 1005 2 (.ol (nat_lit 2) (.flat (Ty.int IntKind.i64))),.cello 1005 3 (.ol (nat_lit 2) (.flat (Ty.int IntKind.i64)))]),(2,[.reg 8 (.dat Iq),.cell 1000 0 (.sl (.int .u8)),.cell 1000 1 Iq,.cell 1000 2 Iq,.ent 10 (nat_lit 2) (.flat (Ty.int IntKind.i64))])],draws:=[(6,[],.o [0,1,3,4,8,11,15,18,22] (.l [9,16,23] (.a [2,5,6,7,10,12,13,14,17,19,20,21] (.op 24 (.d 25))))),(10,[],.op 0 (.u 2 5 (.ld 1 (.alt 7 (.op 8 (.d 9)) .done))))]} Tryz.func46 ?_),
 (λb q Q c=>Hc Zx (Ze b (Ze q (Ze Q (Ze c Zn)))) {loops:=[(0,[.reg 9 (.dat Iq),.ent 2 (nat_lit 2) (.flat (Ty.int IntKind.i64))]),(2,[.reg 10 (.dat Iq),.ent 2 (nat_lit 2) (.flat (Ty.int IntKind.i64))])],draws:=[(8,[],.u 0 19 (.alt 19 (.o [20,21] (.d 22)) .done)),(12,[],.u 0 14 (.d 14))]} Tryz.func322 ?_),
 (λq Q b=>Hc Zx (Ze q (Ze Q (Ze b Zn))) {draws:=[(1,[],.o [0,1] (.u 3 9 (.alt 2 (.o [12,13,14] .done) .done)))]} Tryz.func289 ?_),
 (λj b c f i q g Q=>Hc Qx (Ze j (Ze b (Ze c (Ze f (Ze i (Ze q (Ze g (Ze Q Zn)))))))) {draws:=[(5,[],.u 0 13 (.d 13)),(13,[],.u 0 9 (.d 9)),(16,[],.u 0 6 (.alt 6 (.op 7 (.d 8)) .done))]} Tryz.func66 ?_),
 (Hc Zx Zn {} Tryz.func259 ?_),
 (Hc Qx Zn {draws:=[(3,[],.u 0 11 (.d 11))]} Tryz.func136 ?_),
 (λg b i j q c f Q=>Hc Zx (Ze g (Ze b (Ze i (Ze j (Ze q (Ze c (Ze f (Ze Q Zn)))))))) {draws:=[(12,[],.u 0 12 (.alt 12 (.op 13 (.d 14)) .done))]} Tryz.func17 ?_),
 (λq Q=>Hc Zx (Ze q (Ze Q Zn)) {draws:=[(9,[],.u 0 4 (.alt 4 (.u 5 5 (.alt 10 (.u 11 13 (.alt 24 (.o [25,26] .done) .done)) .done)) .done))]} Tryz.func131 ?_),
 (λc f Q q g b=>Hc ZBo (Ze c (Ze f (Ze Q (Ze q (Ze g (Ze b Zn)))))) {draws:=[(7,[],.u 0 4 (.op 5 (.u 8 9 (.alt 4 (.o [6,7] (.d 17)) .done)))),(8,[],.o [0,1,2,5,6] (.alt 3 (.alt 4 (.a [7,8] (.op 9 .done)) (.a [7,4,8] (.op 9 .done))) (.a [7,3,4,8] (.op 9 .done)))),(9,[],.u 0 4 (.u 5 4 (.o [10,11,12] (.alt 4 (.alt 9 (.op 13 (.a [14,15] .done)) (.a [14,9] (.op 13 (.d 15)))) (.alt 9 (.alt 4 (.op 13 (.a [14,15] .done)) (.a [14,4] (.op 13 (.d 15)))) (.alt 14 (.alt 4 (.alt 9 (.op 13 (.d 15)) .done) (.a [9,4] (.op 13 (.d 15)))) .done)))))),(10,[],.u 0 6 (.op 8 (.alt 6 (.op 7 (.a [9,10] .done)) .done)))]} Tryz.func134 ?_),
 (λq=>Hc Qx (Ze q Zn) {loops:=[(0,[.reg 0 (.own (.ol 222 (.flat (ZcP)))),.reg 11 (.dat Iq)]),(2,[.reg 0 (.own (.ol 222 (.flat (ZcP)))),.reg 12 (.dat Iq)])]} Tryz.func108 ?_),
 (λQ b q=>Hc Zx (Ze Q (Ze b (Ze q Zn))) {loops:=[(0,[.reg 5 (.own (.ol 2 (.flat Iq))),.reg 8 (.dat Iq),.cell 0 0 (.sl (.int .u8)),.cell 0 1 Iq,.cell 0 2 Iq])]} Tryz.func88 ?_),
 (Hc Zx Zn {loops:=[(0,[.reg 5 (.dat Iq)])]} Tryz.func114 ?_),
 (Hc Zx Zn {loops:=[(0,[.reg 8 (.own (.ol 2 (.flat Iq))),.ent 1 (nat_lit 4) (.flat ZyF.ety)]),(2,[.reg 11 (.dat Iq),.ent 3 (nat_lit 4) (.flat ZyF.ety)]),(4,[.reg 12 (.dat Iq)])]} Tryz.func181 ?_),
 (Hc Qx Zn {} Tryz.func109 ?_),
 (λq=>Hc Zx (Ze q Zn) {loops:=[(0,[.reg 5 (.dat Iq)])],draws:=[(4,[],.u 0 6 (.alt 6 (.u 7 17 .done) .done))]} Tryz.func179 ?_),
 (λq c Q b f=>Hc Zx (Ze q (Ze c (Ze Q (Ze b (Ze f Zn))))) {loops:=[(0,[.ent 3 (nat_lit 4) (.flat Ty.bool)]),(4,[.reg 9 (.own (.ol 2 (.flat Iq))),.reg 10 (.dat Iq)]),(2,[.reg 7 (.dat Iq),.reg 8 (.dat Iq),.ent 4 (nat_lit 38) (Dp.ol (2:Go.TypeId) (Dp.flat (Ty.int IntKind.i64)))])],draws:=[(10,[],.u 0 21 (.alt 21 (.u 22 10 (.alt 32 (.op 33 .done) .done)) .done))]} Tryz.func89 ?_),
 (Hc Zx Zn {loops:=[(0,[.reg 7 (.dat Iq)])]} Tryz.func215 ?_),
 (λq Q=>Hc Zx (Ze q (Ze Q Zn)) {draws:=[(1,[],.o [0,1,3,4,5] (.alt 2 (.o [6,7] (.a [8,9] .done)) (.a [8,2] (.o [6,7] (.d 9))))),(2,[],.u 0 21 (.alt 21 (.op 22 (.alt 23 (.alt 24 (.op 25 .done) .done) (.a [24,23] (.op 25 .done)))) .done))]} Tryz.func283 ?_),
 (Hc Zx Zn {} Tryz.func288 ?_),
 (λQ q b=>Hc Zx (Ze Q (Ze q (Ze b Zn))) {loops:=[(0,[.reg 5 (.own (.ol 74 (.flat (Qo)))),.reg 7 (.dat Iq),.cell 0 0 (.sl (.int .u8)),.cell 0 1 Iq,.cell 0 2 Iq]),(2,[.reg 5 (.own (.ol 74 (.flat (Qo)))),.reg 9 (.dat Iq),.cell 0 0 (.sl (.int .u8)),.cell 0 1 Iq,.cell 0 2 Iq])]} Tryz.func50 ?_),
 (Hc Zx Zn {} Tryz.func180 ?_),
 (λq Q=>Hc Zx (Ze q (Ze Q Zn)) {draws:=[(1,[],.u 0 5 (.u 6 5 (.alt 5 (.alt 11 (.op 12 (.a [13,14] .done)) (.a [13,11] (.op 12 (.d 14)))) (.a [13,5,11] (.op 12 (.d 14)))))),(2,[],.u 0 4 (.u 5 4 (.alt 4 (.alt 9 (.op 10 (.a [11,12] .done)) (.a [11,9] (.op 10 (.d 12)))) (.a [11,4,9] (.op 10 (.d 12)))))),(3,[],.u 0 7 (.alt 7 (.o [8,9] (.d 10)) .done)),(4,[],.u 0 7 (.alt 7 (.o [8,9] (.d 10)) .done)),(5,[],.u 0 6 (.alt 6 (.o [7,8] (.d 9)) .done)),(6,[],.u 0 6 (.alt 6 (.o [7,8] (.d 9)) .done)),(7,[],.op 0 (.alt 1 (.a [2,3] .done) (.a [2,1,3] .done)))]} Tryz.func182 ?_)⟩
 all_goals
  intro a;repeat rcases a with⟨_,a⟩
  rintro K ⟨r,h,k⟩;repeat'
    conv=>whnf
    first
    |with_reducible refine ZjM ?_
    |with_reducible refine Znp (by assumption) (by assumption) (by assumption) ?_
    |with_reducible refine ZO (by assumption) ?_
    |with_reducible refine ZnB (by assumption) ?_
    |(with_reducible refine shD ?_);first|refine Zdu h (λh=>?_) (λh=>?_)|refine ZFY h (λh=>?_) (λh=>?_)
    |(with_reducible refine ZFf ?_);first|refine ZqX ?_|refine ZqQ ?_
    |(with_reducible refine ZKd ?_);first|refine Zu3 h (λh=>?_) (λh=>?_)|refine ZFX h (λh=>?_) (λh=>?_)
    |(with_reducible refine ZFe ?_);(refine⟨λN=>?_,?_⟩)<;>try subst N
    |(with_reducible refine ZKf ?_);first|with_reducible refine Xt h (λx H h=>?_)|refine ZnB (by assumption) ?_|with_reducible refine pG h (λp h=>?_)|with_reducible refine pA h (λx n H m h=>?_)|with_reducible refine pB h (λx H h=>?_)|refine Xt h (λx H h=>?_)
    |(with_reducible refine ZKc ?_);first|with_reducible refine vAt h (λx n H m h=>?_)|refine Znp (by assumption) (by assumption) (by assumption) ?_|with_reducible refine pG h (λp h=>?_)|with_reducible refine pA h (λx n H m h=>?_)|with_reducible refine pB h (λx H h=>?_)|refine vAt h (λx n H m h=>?_)
    |(with_reducible refine ZFd ?_);first|with_reducible refine Zyw h (λx H h=>?_)|refine ZO (by assumption) ?_|with_reducible refine pG h (λp h=>?_)|with_reducible refine pA h (λx n H m h=>?_)|with_reducible refine pB h (λx H h=>?_)|refine Zyw h (λx H h=>?_)
    |with_reducible refine ZKe ?_
    |(with_reducible refine ZBa ?_);refine ZBA h k ?_;clear h k;intro I μ v r h k;(repeat rcases v with⟨_,v⟩);(try dsimp only at h)
    |with_reducible refine⟨by assumption,?_⟩
    |with_reducible refine orL ?_
    |with_reducible refine .inr ?_
    |(with_reducible refine ZFg ?_);first|refine⟨?_,True.intro⟩|refine⟨?_,?_⟩
    |refine⟨by kernel_rfl,?_⟩
    |refine⟨by decide,?_⟩
    |with_reducible refine Zro h (λp h=>?_)
    |intro F
    |exact trivial
    |with_reducible exact ZEy h
    |(refine pS h (λe=>?_));subst e;(repeat (first|exact k|exact⟨⟨rfl,rfl⟩,k.1 _ rfl⟩|(refine pR k (λe k=>?_));subst e));done
    |refine Zro h (λp h=>?_)
    |refine⟨by assumption,?_⟩
    |with_reducible refine pG h (λp h=>?_)|with_reducible refine pA h (λx n H m h=>?_)|with_reducible refine pB h (λx H h=>?_)
    |refine pG h (λp h=>?_)
    |fail
theorem ZN4 (Q:Sq 252 ZJr) (v:Sq 253 ZJs) (t:Sq 254 ZJt) (w:Sq 190 ZDL):Sq 187 ZJu:=by
 refine Hc Qx (Ze Q (Ze v (Ze t (Ze w Zn)))) {loops:=[(0,[.reg 19 (.dat Iq),.splt 1300 105 (Zh6)])],draws:=[(1,[],.o [0,1,3,4,6,7] (.alt 2 (.alt 5 (.alt 8 (.op 9 (.a [10,11] .done)) (.a [10,8] (.op 9 (.d 11)))) (.a [10,5,8] (.op 9 (.d 11)))) (.a [10,2,5,8] (.op 9 (.d 11))))),(5,[],.u 0 5 (.alt 5 (.o [6,7] (.d 8)) .done))]} Tryz.func187 ?_;rintro⟨D,⟨⟩⟩ K ⟨r,h,l⟩
 change ZaA D=some r at h
 unfold ZaA at h
 focus
  conv=>whnf
  refine⟨by kernel_rfl,?_⟩
  conv=>whnf
  obtain⟨Instance0,e,h⟩:=Uv.1 h;obtain⟨s,c,h⟩:=Uv.1 h;obtain⟨Port0,m,h⟩:=Uv.1 h;refine⟨?_,?_⟩;rotate_left
  focus
   conv=>whnf
   refine⟨_,e,?_⟩
   conv=>whnf
   refine⟨_,c,?_⟩
   conv=>whnf
   refine⟨_,m,?_⟩
   conv=>whnf
   refine⟨trivial,?_⟩
  rotate_right
  focus
   conv=>whnf
   refine⟨_,e,?_⟩
   conv=>whnf
   refine⟨?_,?_⟩;rotate_left
   focus
    conv=>whnf
    refine⟨_,c,?_⟩
    conv=>whnf
    refine⟨_,m,?_⟩
    conv=>whnf
    refine⟨trivial,?_⟩
   rotate_right
   focus
    conv=>whnf
    refine⟨_,c,?_⟩
    conv=>whnf
    refine⟨?_,?_⟩;rotate_left
    focus
     conv=>whnf
     refine⟨_,m,?_⟩
     conv=>whnf
     refine⟨trivial,?_⟩
    rotate_right
    focus
     conv=>whnf
     refine⟨_,m,?_⟩
     conv=>whnf
     refine⟨trivial,?_⟩
  all_goals
   conv=>whnf
   refine ZqP h ?_;rintro I3 A ⟨v0,l0,⟨⟩⟩ z h p f
   change VA Instance0 s Port0 v0 l0=some z at h
   unfold VA at h
   conv=>whnf
   intro _
   conv=>whnf
   refine Zdu h (λh=>?_) (λh=>?_)
   conv=>whnf
   refine vAt h (λX H b x h=>?_)
   conv=>whnf
   refine Zro h (λn h=>?_)
   conv=>whnf
   refine⟨H,b,ZO x ?_⟩
   conv=>whnf
   refine⟨by kernel_rfl,?_⟩
   conv=>whnf
   refine Xt h (λ_ _ h=>?_)
   conv=>whnf
   refine⟨H,b,ZO x ?_⟩
   conv=>whnf
   refine Zro h (λq h=>?_)
   conv=>whnf
   refine vAt h (λy g i j h=>?_)
   conv=>whnf
   refine⟨trivial,?_⟩
   conv=>whnf
   cases h;exact⟨⟨rfl,rfl⟩,p _ rfl⟩
   conv=>whnf
   refine Zro h (λk h=>?_)
   conv=>whnf
   cases h;obtain rfl:=f _ rfl;exact l
theorem w_laws_FnTop (f:Sq 5 c0) (Q:Sq 6 c66) (a:Sq 8 c67) (q:Sq 7 ZIi) (b:Sq 9 ZJX):Sq 3 Zom:=by
 refine Hc Zx (Ze f (Ze Q (Ze a (Ze q (Ze b Zn))))) {} Tryz.func3 ?_;rintro⟨c,⟨⟩⟩ K ⟨r,h,k⟩
 change Zji c=some r at h
 unfold Zji at h
 conv=>whnf
 refine Xt h (λ_ _ h=>?_)
 conv=>whnf
 refine Zu3 h (λh=>?_) (λh=>?_)
 conv=>whnf
 cases h;exact k
 conv=>whnf
 refine Xt h (λ_ _ h=>?_)
 conv=>whnf
 refine Xt h (λ_ _ h=>?_)
 conv=>whnf
 refine Xt h (λ_ _ h=>?_)
 conv=>whnf
 refine Xt h (λ_ _ h=>?_)
 conv=>whnf
 cases h;exact k
theorem ZN6:Sq 197 ZJB:=by
 refine Hc Zx Zn {loops:=[(0,[.reg 8 (.dat Iq)])]} Tryz.func197 ?_;rintro⟨s0,v0,⟨⟩⟩ K ⟨r,h,k⟩
 change XM s0 v0=some r at h
 unfold XM at h
 conv=>whnf
 refine ZqP h ?_;rintro I0 c ⟨v1,⟨⟩⟩ z h A H
 change YA s0 v0 v1=some z at h
 unfold YA at h
 conv=>whnf
 refine Zdu h (λh=>?_) (λh=>?_)
 conv=>whnf
 refine vAt h (λX a b x h=>?_)
 conv=>whnf
 refine Zdu h (λh=>?_) (λh=>?_)
 conv=>whnf
 cases h;obtain rfl:=H _ rfl;exact k
 conv=>whnf
 cases h;exact⟨⟨rfl,rfl⟩,A _ rfl⟩
 conv=>whnf
 cases h;obtain rfl:=H _ rfl;exact k
theorem ZN2 (n:Sq 48 c83) (s:Sq 41 c35) (t:Sq 16 c2) (m:Sq 15 c65) (p:Sq 49 c84) (Q:Sq 50 c82) (v:Sq 17 c38) (q:Sq 24 ZHt):Sq 18 ZIh:=by
 refine Hc Zx (Ze n (Ze s (Ze t (Ze m (Ze p (Ze Q (Ze v (Ze q Zn)))))))) {draws:=[(3,[],.o [1,2] (.ld 0 (.alt 3 (.alt 4 (.u 5 4 (.a [9,10] (.o [11,12] .done))) (.a [9,4] (.u 5 4 (.alt 10 (.o [11,12] .done) .done)))) (.a [9,3,4] (.u 5 4 (.alt 10 (.o [11,12] .done) .done)))))),(11,[],.o [0,3] (.alt 1 (.alt 2 (.alt 4 (.a [5,6,7] (.op 8 (.d 9))) (.alt 5 (.alt 4 (.a [6,7] (.op 8 (.d 9))) (.alt 6 (.alt 4 (.alt 7 (.op 8 (.d 9)) .done) (.alt 7 (.op 8 (.a [4,9] .done)) .done)) .done)) .done)) (.alt 4 (.alt 2 (.a [5,6,7] (.op 8 (.d 9))) (.alt 5 (.alt 2 (.a [6,7] (.op 8 (.d 9))) (.a [6,2,7] (.op 8 (.d 9)))) .done)) (.alt 5 (.alt 2 (.alt 4 (.a [6,7] (.op 8 (.d 9))) (.alt 6 (.alt 4 (.alt 7 (.op 8 (.d 9)) .done) (.alt 7 (.op 8 (.a [4,9] .done)) .done)) .done)) (.alt 4 (.alt 2 (.a [6,7] (.op 8 (.d 9))) (.a [6,2,7] (.op 8 (.d 9)))) (.alt 6 (.alt 2 (.alt 4 (.alt 7 (.op 8 (.d 9)) .done) (.alt 7 (.op 8 (.a [4,9] .done)) .done)) (.a [4,2,7] (.op 8 (.d 9)))) .done))) .done))) (.alt 2 (.alt 1 (.alt 4 (.a [5,6,7] (.op 8 (.d 9))) (.alt 5 (.alt 4 (.a [6,7] (.op 8 (.d 9))) (.alt 6 (.alt 4 (.alt 7 (.op 8 (.d 9)) .done) (.alt 7 (.op 8 (.a [4,9] .done)) .done)) .done)) .done)) (.alt 4 (.alt 1 (.a [5,6,7] (.op 8 (.d 9))) (.a [5,1,6,7] (.op 8 (.d 9)))) (.alt 5 (.alt 1 (.alt 4 (.a [6,7] (.op 8 (.d 9))) (.alt 6 (.alt 4 (.alt 7 (.op 8 (.d 9)) .done) (.alt 7 (.op 8 (.a [4,9] .done)) .done)) .done)) (.a [4,1,6,7] (.op 8 (.d 9)))) .done))) (.alt 4 (.alt 1 (.alt 2 (.a [5,6,7] (.op 8 (.d 9))) (.alt 5 (.alt 2 (.a [6,7] (.op 8 (.d 9))) (.a [6,2,7] (.op 8 (.d 9)))) .done)) (.alt 2 (.alt 1 (.a [5,6,7] (.op 8 (.d 9))) (.a [5,1,6,7] (.op 8 (.d 9)))) (.alt 5 (.alt 1 (.alt 2 (.a [6,7] (.op 8 (.d 9))) (.a [6,2,7] (.op 8 (.d 9)))) (.a [2,1,6,7] (.op 8 (.d 9)))) .done))) (.alt 5 (.alt 1 (.alt 2 (.alt 4 (.a [6,7] (.op 8 (.d 9))) (.alt 6 (.alt 4 (.alt 7 (.op 8 (.d 9)) .done) (.alt 7 (.op 8 (.a [4,9] .done)) .done)) .done)) (.alt 4 (.alt 2 (.a [6,7] (.op 8 (.d 9))) (.a [6,2,7] (.op 8 (.d 9)))) (.alt 6 (.alt 2 (.alt 4 (.alt 7 (.op 8 (.d 9)) .done) (.alt 7 (.op 8 (.a [4,9] .done)) .done)) (.a [4,2,7] (.op 8 (.d 9)))) .done))) (.alt 2 (.alt 1 (.alt 4 (.a [6,7] (.op 8 (.d 9))) (.alt 6 (.alt 4 (.alt 7 (.op 8 (.d 9)) .done) (.alt 7 (.op 8 (.a [4,9] .done)) .done)) .done)) (.a [4,1,6,7] (.op 8 (.d 9)))) (.alt 4 (.alt 1 (.alt 2 (.a [6,7] (.op 8 (.d 9))) (.a [6,2,7] (.op 8 (.d 9)))) (.a [2,1,6,7] (.op 8 (.d 9)))) .done))) .done)))))]} Tryz.func18 ?_;rintro⟨a0,⟨⟩⟩ K ⟨r,h,k⟩
 change Zfy a0=some r at h
 unfold Zfy at h
 conv=>whnf
 refine Xt h (λ_ _ h=>?_)
 conv=>whnf
 refine Xt h (λ_ _ h=>?_)
 conv=>whnf
 refine Zu3 h (λh=>?_) (λh=>?_)
 conv=>whnf
 refine Xt h (λL _ h=>?_)
 conv=>whnf
 refine Zdu h (λh=>?_) (λh=>?_)
 focus
  iterate 2 ((conv=>whnf);refine⟨by kernel_rfl,?_⟩)
  conv=>whnf
  obtain⟨c,i,h⟩:=Uv.1 h;obtain⟨ApplyEdits0,H,h⟩:=Uv.1 h;refine⟨?_,?_⟩;rotate_left
  focus
   conv=>whnf
   refine⟨by kernel_rfl,?_⟩
   conv=>whnf
   refine⟨_,i,?_⟩
   conv=>whnf
   intro g
   conv=>whnf
   refine⟨_,H,?_⟩
   conv=>whnf
   intro f
   conv=>whnf
   intro F
   conv=>whnf
   intro e
   conv=>whnf
   refine⟨trivial,?_⟩
  rotate_right
  focus
   conv=>whnf
   refine⟨by kernel_rfl,?_⟩
   conv=>whnf
   refine⟨_,i,?_⟩
   conv=>whnf
   intro g
   conv=>whnf
   refine⟨?_,?_⟩;rotate_left
   focus
    conv=>whnf
    refine⟨_,H,?_⟩
    conv=>whnf
    intro f
    conv=>whnf
    intro F
    conv=>whnf
    intro e
    conv=>whnf
    refine⟨trivial,?_⟩
   rotate_right
   focus
    conv=>whnf
    refine⟨_,H,?_⟩
    conv=>whnf
    intro f
    conv=>whnf
    intro F
    conv=>whnf
    intro e
    conv=>whnf
    refine⟨trivial,?_⟩
  all_goals
   conv=>whnf
   refine Xt h (λ_ _ h=>?_)
   conv=>whnf
   refine Xt h (λl _ h=>?_)
   conv=>whnf
   refine Xt h (λPropagateTiming0 j h=>?_)
   conv=>whnf
   refine Xt h (λb _ h=>?_)
   conv=>whnf
   refine Zdu h (λh=>?_) (λh=>?_)
   focus
    conv=>whnf
    refine⟨λN=>absurd N (by decide),λ_=>?_⟩;rw[Ue (by decide)]at h
    conv=>whnf
    refine⟨by kernel_rfl,?_⟩
    conv=>whnf
    repeat' (first|with_reducible refine ZjM ?_|((conv=>whnf);first|with_reducible refine ZjM ?_|refine⟨?_,?_⟩|fail)|fail)
    all_goals
     conv=>whnf
     cases h;exact k
   focus
    conv=>whnf
    refine⟨by kernel_rfl,?_⟩
    conv=>whnf
    repeat' (first|with_reducible refine ZjM ?_|((conv=>whnf);first|with_reducible refine ZjM ?_|refine⟨?_,?_⟩|fail)|fail)
    all_goals
     conv=>whnf
     cases h;exact k
 conv=>whnf
 refine Xt h (λl _ h=>?_)
 conv=>whnf
 refine Xt h (λPropagateTiming0 _ h=>?_)
 conv=>whnf
 refine Xt h (λb _ h=>?_)
 conv=>whnf
 refine Zdu h (λh=>?_) (λh=>?_)
 conv=>whnf
 refine Zdu h (λh=>?_) (λh=>?_)
 focus
  conv=>whnf
  refine Xt h (λPropagateTiming1 _ h=>?_)
  conv=>whnf
  refine⟨by kernel_rfl,?_⟩
  conv=>whnf
  repeat' (first|with_reducible refine ZjM ?_|((conv=>whnf);first|with_reducible refine ZjM ?_|refine⟨?_,?_⟩|fail)|fail)
  all_goals
   conv=>whnf
   cases h;exact k
 focus
  conv=>whnf
  refine⟨by kernel_rfl,?_⟩
  conv=>whnf
  repeat' (first|with_reducible refine ZjM ?_|((conv=>whnf);first|with_reducible refine ZjM ?_|refine⟨?_,?_⟩|fail)|fail)
  all_goals
   conv=>whnf
   cases h;exact k
 focus
  conv=>whnf
  refine⟨by kernel_rfl,?_⟩
  conv=>whnf
  repeat' (first|with_reducible refine ZjM ?_|((conv=>whnf);first|with_reducible refine ZjM ?_|refine⟨?_,?_⟩|fail)|fail)
  all_goals
   conv=>whnf
   cases h;exact k
 conv=>whnf
 refine Xt h (λl _ h=>?_)
 conv=>whnf
 refine Xt h (λPropagateTiming0 _ h=>?_)
 conv=>whnf
 refine Xt h (λL _ h=>?_)
 conv=>whnf
 refine Zdu h (λh=>?_) (λh=>?_)
 conv=>whnf
 refine Zdu h (λh=>?_) (λh=>?_)
 focus
  conv=>whnf
  refine Xt h (λPropagateTiming1 _ h=>?_)
  conv=>whnf
  refine⟨by kernel_rfl,?_⟩
  conv=>whnf
  repeat' (first|with_reducible refine ZjM ?_|((conv=>whnf);first|with_reducible refine ZjM ?_|refine⟨?_,?_⟩|fail)|fail)
  all_goals
   conv=>whnf
   cases h;exact k
 focus
  conv=>whnf
  refine⟨by kernel_rfl,?_⟩
  conv=>whnf
  repeat' (first|with_reducible refine ZjM ?_|((conv=>whnf);first|with_reducible refine ZjM ?_|refine⟨?_,?_⟩|fail)|fail)
  all_goals
   conv=>whnf
   cases h;exact k
 focus
  conv=>whnf
  refine⟨by kernel_rfl,?_⟩
  conv=>whnf
  repeat' (first|with_reducible refine ZjM ?_|((conv=>whnf);first|with_reducible refine ZjM ?_|refine⟨?_,?_⟩|fail)|fail)
  all_goals
   conv=>whnf
   cases h;exact k
end Go.Proofs.YtoijdogpgpbddaaGreatDoor
