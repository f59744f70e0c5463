/-
  The functions keep their contracts, if what they call does. Printed by program.
-/
import Derived.Test.YtcjminfjgckdlaaGreatDoorM
import Derived.KernelRfl
namespace Go.Proofs.YtcjminfjgckdlaaGreatDoor
open Go Go.Sx
set_option maxRecDepth 100000
set_option maxHeartbeats 100000000
set_option linter.unusedVariables false
set_option linter.unusedSimpArgs false
structure Ws0:Prop where
 w212:Sq 338 ZIq->Sq 302 c212
 w283:Sq 47 ZFi->Sq 45 ZFj->Sq 14 ZI9
 w261:Sq 111 ZuI->Sq 114 ZFK
 w139:Sq 359 ZHS->Sq 360 ZHY->Sq 361 ZH1->Sq 362 c138->Sq 348 ZFH->Sq 202 Ztz->Sq 345 c139
 w137:Sq 344 ZGF->Sq 348 ZFH
 w173:Sq 200 c173
 w154:Sq 192 ZDX->Sq 202 Ztz->Sq 226 c154
 w163:Sq 111 ZuI
 w172:Sq 111 ZuI->Sq 193 ZGH
 w243:Sq 111 ZuI->Sq 254 c236->Sq 255 ZGT->Sq 166 ZFg->Sq 256 ZIE->Sq 257 ZIF->Sq 258 ZIH->Sq 122 ZDW->Sq 165 ZGG->Sq 198 ZII
 w168:Sq 166 ZFg->Sq 167 c167->Sq 89 c168
 w159:Sq 228 c159
 w183:Sq 180 c182->Sq 96 c183
 w165:Sq 122 ZDW->Sq 202 Ztz->Sq 229 c164->Sq 134 ZDd->Sq 165 ZGG
 w228:Sq 37 ZGQ->Sq 38 c227->Sq 11 c228
 w205:Sq 235 ZIn->Sq 176 ZIo
 w225:Sq 179 ZIy
 w281:Sq 37 ZGQ->Sq 57 ZG1->Sq 108 ZI2->Sq 109 ZI6->Sq 44 ZI7
 w167:Sq 167 c167
 w185:Sq 96 c183->Sq 203 ZIg->Sq 126 ZGL
 w133:Sq 370 ZHX->Sq 360 ZHY
 w192:Sq 172 ZIj
 w208:Sq 171 ZIp->Sq 177 c208
 w206:Sq 236 c206
 w127:Sq 122 ZDW->Sq 202 Ztz->Sq 134 ZDd->Sq 136 ZFG->Sq 377 c127
 w182:Sq 202 Ztz->Sq 180 c182
 w246:Sq 127 ZGU
 w115:Sq 344 ZGF
 w219:Sq 285 ZFh->Sq 286 ZIt
 w190:Sq 125 ZIi->Sq 96 c183->Sq 126 ZGL->Sq 49 ZGO
 w191:Sq 92 ZGP
 w188:Sq 170 ZIh->Sq 134 ZDd->Sq 136 ZFG->Sq 91 ZGN
 w209:Sq 238 ZFJ
 w179:Sq 210 ZGJ->Sq 135 ZA3
 w223:Sq 238 ZFJ->Sq 283 c210->Sq 284 ZGS->Sq 288 c222->Sq 239 ZIw
 w222:Sq 328 ZIv->Sq 285 ZFh->Sq 288 c222
 w294:Sq 61 ZJk
 w295:Sq 61 ZJk->Sq 20 ZJl
 w252:Sq 244 ZIM
 w275:Sq 187 ZI1
 w171:Sq 137 c171
 w142:Sq 363 c141->Sq 346 ZH3
 w141:Sq 347 ZH2->Sq 363 c141
 w135:Sq 375 ZHZ->Sq 374 ZH0
 w123:Sq 209 ZHT->Sq 242 ZHU
 w31:Sq 268 c24->Sq 181 c22->Sq 131 c23->Sq 269 c29->Sq 270 c30->Sq 220 c31
 w82:Sq 131 c23->Sq 181 c22->Sq 97 c82
 w110:Sq 39 c90->Sq 40 c42->Sq 42 c45->Sq 41 c109->Sq 12 ZGE
 w286:Sq 53 c65->Sq 54 c87->Sq 55 ZJb->Sq 16 ZJc
 w89:Sq 98 c84->Sq 40 c42->Sq 103 c46->Sq 42 c45->Sq 183 c88->Sq 99 c89
 w5:Sq 357 c4->Sq 27 c2->Sq 341 c5
 w7:Sq 27 c2->Sq 315 c6->Sq 264 c7
 w9:Sq 27 c2->Sq 264 c7->Sq 216 c9
 w22:Sq 181 c22
 w69:Sq 267 c68->Sq 218 c69
 w92:Sq 354 c92
 w70:Sq 70 c16->Sq 219 c70
 w33:Sq 131 c23->Sq 154 c33
 w18:Sq 144 c10->Sq 145 c12->Sq 77 c14->Sq 76 c17->Sq 69 c18
 w74:Sq 159 c74
 w54:Sq 71 c37->Sq 72 c13->Sq 27 c2->Sq 73 c38->Sq 74 c53->Sq 75 c11->Sq 77 c14->Sq 76 c17->Sq 28 c54
 w63:Sq 205 c58->Sq 77 c14->Sq 260 c62->Sq 208 c63
 w77:Sq 158 c73->Sq 77 c14->Sq 72 c13->Sq 159 c74->Sq 70 c16->Sq 160 c75->Sq 157 c77
 w64:Sq 72 c13->Sq 204 c57->Sq 205 c58->Sq 181 c22->Sq 206 c59->Sq 207 c61->Sq 208 c63->Sq 77 c14->Sq 146 c36->Sq 130 c64
 w20:Sq 27 c2->Sq 25 c19->Sq 69 c18->Sq 148 c20
 w42:Sq 73 c38->Sq 100 c40->Sq 83 c41->Sq 77 c14->Sq 101 c39->Sq 40 c42
 w39:Sq 101 c39
 w49:Sq 265 c47->Sq 266 c48->Sq 217 c49
 w90:Sq 71 c37->Sq 97 c82->Sq 98 c84->Sq 54 c87->Sq 99 c89->Sq 39 c90
 w87:Sq 103 c46->Sq 131 c23->Sq 105 c85->Sq 132 c86->Sq 54 c87
 w106:Sq 240 ZHL->Sq 241 c105->Sq 184 ZHO
set_option maxHeartbeats 100000000 in
theorem ws0:Ws0:=by
 refine ⟨(λq=>G8 Zv (Zd q Zm) {} Tryz.func302 ?_),
 (λQ q=>G8 Qi (Zd Q (Zd q Zm)) {} Tryz.func14 ?_),
 (λq=>G8 Zv (Zd q Zm) {loops:=[(0,[.reg 16 (.dat Iq),.entm 1 (Zuy.ty) (Zuy.ety),.ent 2 (nat_lit 3) (.flat Zrl.ety)])],draws:=[(7,[],.u 0 20 (.d 20))]} Tryz.func114 ?_),
 (λf c b q Q g=>G8 Zv (Zd f (Zd c (Zd b (Zd q (Zd Q (Zd g Zm)))))) {draws:=[(2,[],.u 0 12 (.alt 12 (.u 13 5 (.alt 18 (.u 19 11 (.alt 30 (.u 31 9 .done) .done)) .done)) .done)),(3,[],.o [0,1] (.alt 2 (.u 3 4 (.alt 7 (.u 8 6 (.alt 14 (.u 15 6 (.alt 21 (.o [22,23] .done) .done)) .done)) .done)) .done))]} Tryz.func345 ?_),
 (λq=>G8 Zv (Zd q Zm) {} Tryz.func348 ?_),
 (G8 Zv Zm {draws:=[(3,[],.u 0 18 .done)]} Tryz.func200 ?_),
 (λq Q=>G8 Zv (Zd q (Zd Q Zm)) {} Tryz.func226 ?_),
 (G8 Zv Zm {loops:=[(0,[.reg 3 (.own (.ol 190 (.flat (ZmQ)))),.reg 13 (.dat Iq)]),(2,[.reg 3 (.own (.ol 190 (.flat (ZmQ)))),.reg 21 (.dat Iq)]),(4,[.reg 3 (.own (.ol 190 (.flat (ZmQ)))),.reg 44 (.dat Iq)])]} Tryz.func111 ?_),
 (λq=>G8 Zv (Zd q Zm) {loops:=[(0,[.reg 5 (.own (.ol 2 (.flat Iq))),.reg 11 (.dat Iq)])]} Tryz.func193 ?_),
 (λb g i j c Q q f m=>G8 Zv (Zd b (Zd g (Zd i (Zd j (Zd c (Zd Q (Zd q (Zd f (Zd m Zm))))))))) {draws:=[(6,[],.u 0 27 (.alt 27 (.o [28,29] .done) .done)),(12,[],.u 0 19 .done),(13,[],.u 0 9 (.a [9,10] (.op 11 .done)))]} Tryz.func198 ?_),
 (λQ q=>G8 Zv (Zd Q (Zd q Zm)) {} Tryz.func89 ?_),
 (G8 Zv Zm {} Tryz.func228 ?_),
 (λq=>G8 Zv (Zd q Zm) {} Tryz.func96 ?_),
 (λq c Q b=>G8 Zv (Zd q (Zd c (Zd Q (Zd b Zm)))) {} Tryz.func165 ?_),
 (λQ q=>G8 Zv (Zd Q (Zd q Zm)) {} Tryz.func11 ?_),
 (λq=>G8 Zv (Zd q Zm) {draws:=[(2,[],.o [0,1,2,5] (.alt 3 (.alt 4 (.alt 6 (.o [7,8] (.alt 9 (.o [10,11] (.d 12)) .done)) .done) (.alt 6 (.o [7,8] (.alt 4 (.alt 9 (.o [10,11] (.d 12)) .done) (.a [9,4] (.o [10,11] (.d 12))))) .done)) (.alt 4 (.alt 3 (.alt 6 (.o [7,8] (.alt 9 (.o [10,11] (.d 12)) .done)) .done) (.a [6,3] (.o [7,8] (.alt 9 (.o [10,11] (.d 12)) .done)))) (.alt 6 (.alt 3 (.o [7,8] (.alt 4 (.alt 9 (.o [10,11] (.d 12)) .done) (.a [9,4] (.o [10,11] (.d 12))))) (.a [4,3] (.o [7,8] (.alt 9 (.o [10,11] (.d 12)) .done)))) .done)))),(3,[],.u 0 7 (.u 8 5 (.a [7,13] (.o [14,15] (.alt 16 (.o [17,18] (.d 19)) .done)))))]} Tryz.func176 ?_),
 (G8 Zv Zm {} Tryz.func179 ?_),
 (λc q Q b=>G8 Zv (Zd c (Zd q (Zd Q (Zd b Zm)))) {} Tryz.func44 ?_),
 (G8 Zv Zm {} Tryz.func167 ?_),
 (λq Q=>G8 Zv (Zd q (Zd Q Zm)) {} Tryz.func126 ?_),
 (λq=>G8 Zv (Zd q Zm) {} Tryz.func360 ?_),
 (G8 Zv Zm {} Tryz.func172 ?_),
 (λq=>G8 Zv (Zd q Zm) {} Tryz.func177 ?_),
 (G8 Zv Zm {} Tryz.func236 ?_),
 (λq c b Q=>G8 Zv (Zd q (Zd c (Zd b (Zd Q Zm)))) {} Tryz.func377 ?_),
 (λq=>G8 Zv (Zd q Zm) {} Tryz.func180 ?_),
 (G8 Zv Zm {} Tryz.func127 ?_),
 (G8 Zv Zm {} Tryz.func344 ?_),
 (λq=>G8 Zv (Zd q Zm) {} Tryz.func286 ?_),
 (λq b Q=>G8 Zv (Zd q (Zd b (Zd Q Zm))) {loops:=[(0,[.reg 9 (.dat Iq)])],draws:=[(4,[],.o [0,1,2] (.alt 3 (.u 4 4 (.alt 8 (.u 9 5 (.alt 14 (.u 15 17 .done) .done)) .done)) .done))]} Tryz.func49 ?_),
 (G8 Zv Zm {loops:=[(0,[.reg 23 (.dat Iq),.ent 0 (nat_lit 4) (.flat Zyf.ety)]),(2,[.reg 35 (.dat Iq),.ent 0 (nat_lit 4) (.flat Zyf.ety)])]} Tryz.func92 ?_),
 (λq b Q=>G8 Zv (Zd q (Zd b (Zd Q Zm))) {} Tryz.func91 ?_),
 (G8 Zv Zm {draws:=[(1,[],.u 0 11 .done)]} Tryz.func238 ?_),
 (λq=>G8 Zv (Zd q Zm) {} Tryz.func135 ?_),
 (λQ b q c=>G8 Zv (Zd Q (Zd b (Zd q (Zd c Zm)))) {draws:=[(4,[],.o [0,1,4,5,6] (.u 9 9 (.alt 2 (.o [3,7,8] (.alt 18 (.o [19,20] .done) .done)) .done))),(5,[],.u 0 13 (.alt 13 (.o [14,15] .done) .done))]} Tryz.func239 ?_),
 (λQ q=>G8 Zv (Zd Q (Zd q Zm)) {} Tryz.func288 ?_),
 (G8 Zv Zm {loops:=[(0,[.reg 5 (.dat Iq)])],draws:=[(6,[],.u 0 9 .done)]} Tryz.func61 ?_),
 (λq=>G8 Zv (Zd q Zm) {loops:=[(0,[.reg 5 (.dat Iq)])],draws:=[(6,[],.u 0 11 .done)]} Tryz.func20 ?_),
 (G8 Zv Zm {} Tryz.func244 ?_),
 (G8 Zv Zm {} Tryz.func187 ?_),
 (G8 Zv Zm {} Tryz.func137 ?_),
 (λq=>G8 Zv (Zd q Zm) {} Tryz.func346 ?_),
 (λq=>G8 Zv (Zd q Zm) {loops:=[(0,[.reg 8 (.dat Iq)])]} Tryz.func363 ?_),
 (λq=>G8 Zv (Zd q Zm) {loops:=[(0,[.reg 8 (.dat Iq)])]} Tryz.func374 ?_),
 (λq=>G8 Zv (Zd q Zm) {loops:=[(0,[.reg 8 (.dat Iq)])]} Tryz.func242 ?_),
 (λQ b f c q=>G8 Zv (Zd Q (Zd b (Zd f (Zd c (Zd q Zm))))) {loops:=[(0,[.reg 5 (.dat Iq)]),(2,[.reg 7 (.dat Iq)]),(5,[.reg 9 (.dat Iq)])],draws:=[(13,[],.u 0 31 .done),(25,[],.u 0 26 .done)]} Tryz.func220 ?_),
 (λQ q=>G8 Zv (Zd Q (Zd q Zm)) {loops:=[(0,[.reg 4 (.dat Iq)])]} Tryz.func97 ?_),
 (λQ q b c=>G8 Zv (Zd Q (Zd q (Zd b (Zd c Zm)))) {draws:=[(5,[],.u 0 5 (.o [6,7] (.alt 5 (.alt 8 (.o [9,10,11] (.a [12,13] (.op 14 .done))) (.a [12,8] (.o [9,10,11] (.alt 13 (.op 14 .done) .done)))) (.a [12,5,8] (.o [9,10,11] (.alt 13 (.op 14 .done) .done))))))]} Tryz.func12 ?_),
 (λb q Q=>G8 Zv (Zd b (Zd q (Zd Q Zm))) {} Tryz.func16 ?_),
 (λc q Q f b=>G8 Zv (Zd c (Zd q (Zd Q (Zd f (Zd b Zm))))) {} Tryz.func99 ?_),
 (λq Q=>G8 Zv (Zd q (Zd Q Zm)) {loops:=[(0,[.reg 7 (.own (.ol 2 (.flat Iq))),.reg 9 (.dat Iq),.cell 1000 0 (.sl (.int .u8)),.cell 1000 1 Iq,.cell 1000 2 Iq])],draws:=[(10,[],.u 0 5 (.op 6 (.alt 5 (.alt 7 (.o [8,9,10] .done) .done) (.a [7,5] (.o [8,9,10] .done))))),(12,[],.u 0 6 (.op 7 (.alt 6 (.alt 8 (.o [9,10,11] .done) .done) (.a [8,6] (.o [9,10,11] .done)))))]} Tryz.func341 ?_),
 (λQ q=>G8 Qi (Zd Q (Zd q Zm)) {} Tryz.func264 ?_),
 (λQ q=>G8 Qi (Zd Q (Zd q Zm)) {} Tryz.func216 ?_),
 (G8 Zv Zm {loops:=[(0,[.reg 3 (.dat Iq)])]} Tryz.func181 ?_),
 (λq=>G8 Qi (Zd q Zm) {loops:=[(0,[.reg 4 (.dat Iq),.cello 1003 0 (.ol 177 (Zsg))])],draws:=[(5,[],.u 0 7 (.a [7,8,9] (.op 10 (.d 11))))]} Tryz.func218 ?_),
 (G8 Zv Zm {draws:=[(3,[],.u 0 18 .done)]} Tryz.func354 ?_),
 (λq=>G8 Qi (Zd q Zm) {loops:=[(0,[.reg 4 (.dat Iq),.cello 1003 0 (.ol 142 (Zhy))])],draws:=[(1,[],.o [1,2,5] (.ld 6 (.alt 0 (.alt 3 (.alt 4 (.alt 7 (.op 8 (.a [9,10] .done)) (.a [9,7] (.op 8 (.d 10)))) (.a [9,4,7] (.op 8 (.d 10)))) (.alt 4 (.alt 3 (.alt 7 (.op 8 (.a [9,10] .done)) (.a [9,7] (.op 8 (.d 10)))) (.a [9,3,7] (.op 8 (.d 10)))) (.alt 9 (.alt 3 (.a [4,7] (.op 8 (.d 10))) (.a [4,3,7] (.op 8 (.d 10)))) .done))) (.alt 4 (.alt 0 (.alt 3 (.alt 7 (.op 8 (.a [9,10] .done)) (.a [9,7] (.op 8 (.d 10)))) (.a [9,3,7] (.op 8 (.d 10)))) (.a [9,0,3,7] (.op 8 (.d 10)))) (.alt 9 (.alt 0 (.alt 3 (.a [4,7] (.op 8 (.d 10))) (.a [4,3,7] (.op 8 (.d 10)))) (.a [4,0,3,7] (.op 8 (.d 10)))) .done)))))]} Tryz.func219 ?_),
 (λq=>G8 Zv (Zd q Zm) {loops:=[(0,[.reg 6 (.dat Iq)]),(2,[.reg 8 (.dat Iq)]),(4,[.reg 9 (.dat Iq)])],draws:=[(6,[],.u 0 6 (.alt 6 (.u 7 15 .done) .done))]} Tryz.func154 ?_),
 (λb c Q q=>G8 Qi (Zd b (Zd c (Zd Q (Zd q Zm)))) {loops:=[(0,[.reg 9 (.own (.ol 40 (ZoD))),.reg 10 (.dat Iq),.cell 0 0 (.sl (.int .u8)),.cell 0 1 Iq,.cell 0 2 Iq])]} Tryz.func69 ?_),
 (G8 Qi Zm {draws:=[(3,[],.u 0 11 (.d 11))]} Tryz.func159 ?_),
 (λg b i j q c f Q=>G8 Zv (Zd g (Zd b (Zd i (Zd j (Zd q (Zd c (Zd f (Zd Q Zm)))))))) {draws:=[(12,[],.u 0 12 (.alt 12 (.op 13 (.d 14)) .done))]} Tryz.func28 ?_),
 (λq Q b=>G8 Zv (Zd q (Zd Q (Zd b Zm))) {draws:=[(6,[],.u 0 7 (.alt 7 (.u 8 28 .done) .done))]} Tryz.func208 ?_),
 (λc f Q q g b=>G8 ZAv (Zd c (Zd f (Zd Q (Zd q (Zd g (Zd b Zm)))))) {draws:=[(7,[],.u 0 4 (.op 5 (.u 8 9 (.alt 4 (.o [6,7] (.d 17)) .done)))),(8,[],.o [0,1,2,5,6] (.alt 3 (.alt 4 (.a [7,8] (.op 9 .done)) (.a [7,4,8] (.op 9 .done))) (.a [7,3,4,8] (.op 9 .done)))),(9,[],.u 0 4 (.u 5 4 (.o [10,11,12] (.alt 4 (.alt 9 (.op 13 (.a [14,15] .done)) (.a [14,9] (.op 13 (.d 15)))) (.alt 9 (.alt 4 (.op 13 (.a [14,15] .done)) (.a [14,4] (.op 13 (.d 15)))) (.alt 14 (.alt 4 (.alt 9 (.op 13 (.d 15)) .done) (.a [9,4] (.op 13 (.d 15)))) .done)))))),(10,[],.u 0 6 (.op 8 (.alt 6 (.op 7 (.a [9,10] .done)) .done)))]} Tryz.func157 ?_),
 (λQ c b i q f j g m=>G8 Zv (Zd Q (Zd c (Zd b (Zd i (Zd q (Zd f (Zd j (Zd g (Zd m Zm))))))))) {draws:=[(5,[],.u 0 28 (.alt 28 (.o [29,30] .done) .done)),(11,[],.u 0 19 .done),(12,[],.u 0 6 (.alt 6 (.op 7 (.alt 8 (.op 9 .done) .done)) .done))]} Tryz.func130 ?_),
 (λQ q b=>G8 Qi (Zd Q (Zd q (Zd b Zm))) {} Tryz.func148 ?_),
 (λb f q Q c=>G8 Zv (Zd b (Zd f (Zd q (Zd Q (Zd c Zm))))) {loops:=[(0,[.reg 3 (.own (.ol 209 (.flat (ZbZ)))),.reg 5 (.dat Iq)]),(2,[.reg 3 (.own (.ol 209 (.flat (ZbZ)))),.reg 7 (.dat Iq)]),(4,[.reg 3 (.own (.ol 209 (.flat (ZbZ)))),.reg 8 (.dat Iq)]),(6,[.reg 3 (.own (.ol 209 (.flat (ZbZ)))),.reg 11 (.dat Iq)])],draws:=[(6,[],.u 0 13 .done),(11,[],.u 0 12 (.u 13 7 (.op 21 (.a [12,20,22] (.op 23 .done)))))]} Tryz.func40 ?_),
 (G8 Qi Zm {} Tryz.func101 ?_),
 (λq Q=>G8 Qi (Zd q (Zd Q Zm)) {loops:=[(0,[.reg 7 (.own (.ol 38 (.ol 2 (.flat Iq)))),.reg 9 (.dat Iq),.ent 1 (nat_lit 4) (.flat Zyf.ety)]),(2,[.reg 12 (.own (.ol 2 (.flat Iq))),.reg 13 (.dat Iq),.ent 1 (nat_lit 4) (.flat Zyf.ety)])]} Tryz.func217 ?_),
 (λc b f Q q=>G8 Zv (Zd c (Zd b (Zd f (Zd Q (Zd q Zm))))) {} Tryz.func39 ?_),
 (λq c b Q=>G8 Zv (Zd q (Zd c (Zd b (Zd Q Zm)))) {loops:=[(0,[.reg 6 (.dat Iq)])],draws:=[(5,[],.u 0 7 (.alt 7 (.u 8 25 (.alt 33 (.u 34 8 (.alt 42 (.o [43,44] .done) .done)) .done)) .done))]} Tryz.func54 ?_),
 (λq Q=>G8 Zv (Zd q (Zd Q Zm)) {draws:=[(1,[],.u 0 5 (.u 6 5 (.alt 5 (.alt 11 (.op 12 (.a [13,14] .done)) (.a [13,11] (.op 12 (.d 14)))) (.a [13,5,11] (.op 12 (.d 14)))))),(2,[],.u 0 4 (.u 5 4 (.alt 4 (.alt 9 (.op 10 (.a [11,12] .done)) (.a [11,9] (.op 10 (.d 12)))) (.a [11,4,9] (.op 10 (.d 12)))))),(3,[],.u 0 7 (.alt 7 (.o [8,9] (.d 10)) .done)),(4,[],.u 0 7 (.alt 7 (.o [8,9] (.d 10)) .done)),(5,[],.u 0 6 (.alt 6 (.o [7,8] (.d 9)) .done)),(6,[],.u 0 6 (.alt 6 (.o [7,8] (.d 9)) .done)),(7,[],.op 0 (.alt 1 (.a [2,3] .done) (.a [2,1,3] .done)))]} Tryz.func184 ?_)⟩
 all_goals
  intro a;repeat rcases a with⟨_,a⟩
  rintro K ⟨r,h,k⟩;repeat'
    conv=>whnf
    first
    |with_reducible refine ZhV ?_
    |with_reducible refine Zj0 (by assumption) (by assumption) (by assumption) ?_
    |with_reducible refine Z6 (by assumption) ?_
    |with_reducible refine Zj9 (by assumption) ?_
    |(with_reducible refine shD ?_);first|refine ZhT h (λh=>?_) (λh=>?_)|refine ZCW h (λh=>?_) (λh=>?_)
    |(with_reducible refine ZCi ?_);first|refine ZDG ?_|refine ZqR ?_
    |(with_reducible refine ZHj ?_);first|refine Zx6 h (λh=>?_) (λh=>?_)|refine ZCV h (λh=>?_) (λh=>?_)
    |(with_reducible refine ZCh ?_);(refine⟨λN=>?_,?_⟩)<;>try subst N
    |(with_reducible refine ZHl ?_);first|with_reducible refine Xu h (λx H h=>?_)|refine Zj9 (by assumption) ?_|with_reducible refine pG h (λp h=>?_)|with_reducible refine pA h (λx n H l h=>?_)|with_reducible refine pB h (λx H h=>?_)|refine Xu h (λx H h=>?_)
    |(with_reducible refine ZHi ?_);first|with_reducible refine vAt h (λx n H l h=>?_)|refine Zj0 (by assumption) (by assumption) (by assumption) ?_|with_reducible refine pG h (λp h=>?_)|with_reducible refine pA h (λx n H l h=>?_)|with_reducible refine pB h (λx H h=>?_)|refine vAt h (λx n H l h=>?_)
    |(with_reducible refine ZCg ?_);first|with_reducible refine ZuD h (λx H h=>?_)|refine Z6 (by assumption) ?_|with_reducible refine pG h (λp h=>?_)|with_reducible refine pA h (λx n H l h=>?_)|with_reducible refine pB h (λx H h=>?_)|refine ZuD h (λx H h=>?_)
    |with_reducible refine ZHk ?_
    |(with_reducible refine Zw0 ?_);refine Zw9 h k ?_;clear h k;intro I μ v r h k;(repeat rcases v with⟨_,v⟩);(try dsimp only at h)
    |with_reducible refine⟨by assumption,?_⟩
    |with_reducible refine orL ?_
    |with_reducible refine .inr ?_
    |(with_reducible refine ZCj ?_);first|refine⟨?_,True.intro⟩|refine⟨?_,?_⟩
    |refine⟨by kernel_rfl,?_⟩
    |refine⟨by decide,?_⟩
    |with_reducible refine ZrX h (λp h=>?_)
    |intro F
    |exact trivial
    |with_reducible exact ZBi h
    |(refine pS h (λe=>?_));subst e;(repeat (first|exact k|exact⟨⟨rfl,rfl⟩,k.1 _ rfl⟩|(refine pR k (λe k=>?_));subst e));done
    |refine ZrX h (λp h=>?_)
    |refine⟨by assumption,?_⟩
    |with_reducible refine pG h (λp h=>?_)|with_reducible refine pA h (λx n H l h=>?_)|with_reducible refine pB h (λx H h=>?_)
    |refine pG h (λp h=>?_)
    |fail
theorem ZMV (Q:Sq 246 ZIP) (v:Sq 247 ZIQ) (t:Sq 248 ZIR) (w:Sq 137 c171):Sq 191 ZIS:=by
 refine G8 Qi (Zd Q (Zd v (Zd t (Zd w Zm)))) {loops:=[(0,[.reg 19 (.dat Iq),.splt 1300 142 (Zhy)])],draws:=[(1,[],.o [0,1,3,4,6,7] (.alt 2 (.alt 5 (.alt 8 (.op 9 (.a [10,11] .done)) (.a [10,8] (.op 9 (.d 11)))) (.a [10,5,8] (.op 9 (.d 11)))) (.a [10,2,5,8] (.op 9 (.d 11))))),(5,[],.u 0 5 (.alt 5 (.o [6,7] (.d 8)) .done))]} Tryz.func191 ?_;rintro⟨D,⟨⟩⟩ K ⟨r,h,l⟩
 change Zag D=some r at h
 unfold Zag at h
 focus
  conv=>whnf
  refine⟨by kernel_rfl,?_⟩
  conv=>whnf
  obtain⟨Instance0,e,h⟩:=UE.1 h;obtain⟨s,c,h⟩:=UE.1 h;obtain⟨Port0,m,h⟩:=UE.1 h;refine⟨?_,?_⟩;rotate_left
  focus
   conv=>whnf
   refine⟨_,e,?_⟩
   conv=>whnf
   refine⟨_,c,?_⟩
   conv=>whnf
   refine⟨_,m,?_⟩
   conv=>whnf
   refine⟨trivial,?_⟩
  rotate_right
  focus
   conv=>whnf
   refine⟨_,e,?_⟩
   conv=>whnf
   refine⟨?_,?_⟩;rotate_left
   focus
    conv=>whnf
    refine⟨_,c,?_⟩
    conv=>whnf
    refine⟨_,m,?_⟩
    conv=>whnf
    refine⟨trivial,?_⟩
   rotate_right
   focus
    conv=>whnf
    refine⟨_,c,?_⟩
    conv=>whnf
    refine⟨?_,?_⟩;rotate_left
    focus
     conv=>whnf
     refine⟨_,m,?_⟩
     conv=>whnf
     refine⟨trivial,?_⟩
    rotate_right
    focus
     conv=>whnf
     refine⟨_,m,?_⟩
     conv=>whnf
     refine⟨trivial,?_⟩
  all_goals
   conv=>whnf
   refine ZvU h ?_;rintro I3 A ⟨v0,l0,⟨⟩⟩ z h p f
   change Vk Instance0 s Port0 v0 l0=some z at h
   unfold Vk at h
   conv=>whnf
   intro _
   conv=>whnf
   refine ZhT h (λh=>?_) (λh=>?_)
   conv=>whnf
   refine vAt h (λX H b x h=>?_)
   conv=>whnf
   refine ZrX h (λn h=>?_)
   conv=>whnf
   refine⟨H,b,Z6 x ?_⟩
   conv=>whnf
   refine⟨by kernel_rfl,?_⟩
   conv=>whnf
   refine Xu h (λ_ _ h=>?_)
   conv=>whnf
   refine⟨H,b,Z6 x ?_⟩
   conv=>whnf
   refine ZrX h (λq h=>?_)
   conv=>whnf
   refine vAt h (λy g i j h=>?_)
   conv=>whnf
   refine⟨trivial,?_⟩
   conv=>whnf
   cases h;exact⟨⟨rfl,rfl⟩,p _ rfl⟩
   conv=>whnf
   refine ZrX h (λk h=>?_)
   conv=>whnf
   cases h;obtain rfl:=f _ rfl;exact l
theorem ZMZ (e:Sq 118 ZIY) (f:Sq 45 ZFj) (Q:Sq 111 ZuI) (q:Sq 119 ZGZ):Sq 46 ZG0:=by
 refine G8 Zv (Zd e (Zd f (Zd Q (Zd q Zm)))) {loops:=[(0,[.reg 6 (.own (.ol 2 (.flat Iq))),.reg 18 (.dat Iq)])]} Tryz.func46 ?_;rintro⟨E,b0,⟨⟩⟩ K ⟨r,h,k⟩
 change Jl E b0=some r at h
 unfold Jl at h
 conv=>whnf
 refine Xu h (λt _ h=>?_)
 conv=>whnf
 refine Xu h (λ_ _ h=>?_)
 iterate 3 ((conv=>whnf);intro _)
 conv=>whnf
 refine Xu h (λp _ h=>?_)
 conv=>whnf
 refine ZvU h ?_;rintro I6 g ⟨l,v0,⟨⟩⟩ z h H c
 change Jm t p l v0=some z at h
 unfold Jm at h
 conv=>whnf
 refine ZhT h (λh=>?_) (λh=>?_)
 conv=>whnf
 refine vAt h (λX a b x h=>?_)
 conv=>whnf
 refine⟨by kernel_rfl,?_⟩
 conv=>whnf
 refine⟨a,b,Z6 x ?_⟩
 conv=>whnf
 refine Xu h (λ_ _ h=>?_)
 conv=>whnf
 refine Zx6 h (λh=>?_) (λh=>?_)
 conv=>whnf
 refine ZrX h (λd h=>?_)
 conv=>whnf
 cases h;exact⟨⟨rfl,rfl⟩,H _ rfl⟩
 conv=>whnf
 cases h;exact⟨⟨rfl,rfl⟩,H _ rfl⟩
 conv=>whnf
 cases h;obtain rfl:=c _ rfl;exact k
theorem ZMW (B:Sq 111 ZuI) (Q:Sq 137 c171) (C:Sq 192 ZDX) (E:Sq 194 Zpz) (D:Sq 195 Zld):Sq 118 ZIY:=by
 refine G8 Zv (Zd B (Zd Q (Zd C (Zd E (Zd D Zm))))) {draws:=[(5,[],.o [0,1,2,4,5] (.alt 3 (.u 6 6 (.alt 12 (.op 13 .done) .done)) .done)),(7,[],.o [0,2,3,7,8] (.alt 1 (.o [4,5,6] (.a [9,10] (.op 11 .done))) .done)),(11,[],.o [0,2,3,7,8] (.alt 1 (.o [4,5,6] (.alt 9 (.op 10 .done) .done)) .done))]} Tryz.func118 ?_;rintro⟨a0,A,⟨⟩⟩ K ⟨r,h,k⟩
 change Zah a0 A=some r at h
 unfold Zah at h
 conv=>whnf
 refine ZhT h (λh=>?_) (λh=>?_)
 conv=>whnf
 refine⟨by kernel_rfl,?_⟩
 conv=>whnf
 refine Xu h (λp _ h=>?_)
 conv=>whnf
 refine vAt h (λX d e f h=>?_)
 conv=>whnf
 refine⟨by kernel_rfl,?_⟩
 conv=>whnf
 refine⟨d,e,Z6 f ?_⟩
 conv=>whnf
 refine vAt h (λF w y z h=>?_)
 conv=>whnf
 refine Xu h (λ_ _ h=>?_)
 conv=>whnf
 refine⟨trivial,?_⟩
 conv=>whnf
 refine Xu h (λs _ h=>?_)
 conv=>whnf
 refine Xu h (λc _ h=>?_)
 conv=>whnf
 cases h;exact k
 conv=>whnf
 refine ZhT h (λh=>?_) (λh=>?_)
 conv=>whnf
 refine⟨by kernel_rfl,?_⟩
 conv=>whnf
 refine Xu h (λp _ h=>?_)
 conv=>whnf
 refine vAt h (λX g i j h=>?_)
 conv=>whnf
 refine⟨by kernel_rfl,?_⟩
 conv=>whnf
 refine⟨g,i,Z6 j ?_⟩
 conv=>whnf
 refine Xu h (λ_ _ h=>?_)
 conv=>whnf
 refine⟨trivial,?_⟩
 conv=>whnf
 refine Xu h (λs _ h=>?_)
 conv=>whnf
 refine Xu h (λc _ h=>?_)
 conv=>whnf
 cases h;exact k
 conv=>whnf
 refine ZhT h (λh=>?_) (λh=>?_)
 conv=>whnf
 refine vAt h (λX l m n h=>?_)
 conv=>whnf
 refine vAt h (λF q t v h=>?_)
 conv=>whnf
 refine Xu h (λs _ h=>?_)
 conv=>whnf
 refine Xu h (λc _ h=>?_)
 conv=>whnf
 cases h;exact k
 conv=>whnf
 refine ZhT h (λh=>?_) (λh=>?_)
 conv=>whnf
 refine⟨by kernel_rfl,?_⟩
 conv=>whnf
 refine Xu h (λp _ h=>?_)
 conv=>whnf
 refine vAt h (λX H b x h=>?_)
 conv=>whnf
 refine⟨by kernel_rfl,?_⟩
 conv=>whnf
 refine⟨H,b,Z6 x ?_⟩
 conv=>whnf
 refine⟨trivial,?_⟩
 conv=>whnf
 refine Xu h (λs _ h=>?_)
 conv=>whnf
 refine Xu h (λc _ h=>?_)
 conv=>whnf
 cases h;exact k
 conv=>whnf
 refine ZhT h (λh=>?_) (λh=>?_)
 conv=>whnf
 refine Xu h (λs _ h=>?_)
 conv=>whnf
 refine Xu h (λc _ h=>?_)
 conv=>whnf
 cases h;exact k
 conv=>whnf
 refine Xu h (λs _ h=>?_)
 conv=>whnf
 refine Xu h (λc _ h=>?_)
 conv=>whnf
 cases h;exact k
end Go.Proofs.YtcjminfjgckdlaaGreatDoor
