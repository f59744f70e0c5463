/-
  The functions keep their contracts, if what they call does. Printed by program.
-/
import Derived.Test.YtcjminfjgckdlaaGreatDoorM
import Derived.KernelRfl
namespace Go.Proofs.YtcjminfjgckdlaaGreatDoor
open Go Go.Sx
set_option maxRecDepth 100000
set_option maxHeartbeats 100000000
set_option linter.unusedVariables false
set_option linter.unusedSimpArgs false
structure Ws3:Prop where
 w211:Sq 338 ZIq
 w264:Sq 114 ZFK->Sq 111 ZuI->Sq 192 ZDX->Sq 127 ZGU->Sq 115 ZFL->Sq 116 ZFM->Sq 112 ZIU
 w176:Sq 201 c175->Sq 124 ZIe
 w174:Sq 137 c171->Sq 111 ZuI->Sq 193 ZGH->Sq 200 c173->Sq 123 ZGI
 w262:Sq 115 ZFL
 w265:Sq 114 ZFK->Sq 111 ZuI->Sq 192 ZDX->Sq 193 ZGH->Sq 115 ZFL->Sq 116 ZFM->Sq 113 ZIV
 w140:Sq 347 ZH2
 w136:Sq 374 ZH0->Sq 361 ZH1
 w292:Sq 56 ZJe->Sq 57 ZG1->Sq 59 ZJg->Sq 58 ZJh->Sq 18 ZJi
 w218:Sq 287 c218
 w241:Sq 312 c116->Sq 257 ZIF
 w229:Sq 252 c229
 w247:Sq 127 ZGU->Sq 111 ZuI->Sq 50 ZGV
 w238:Sq 311 ZIC
 w166:Sq 164 c162->Sq 111 ZuI->Sq 165 ZGG->Sq 88 ZFI
 w150:Sq 271 ZH6->Sq 272 ZFF->Sq 223 ZH7
 w259:Sq 137 c171->Sq 117 ZGY
 w118:Sq 166 ZFg->Sq 321 c117->Sq 272 ZFF
 w130:Sq 372 ZHV->Sq 373 ZHW->Sq 371 c130
 w122:Sq 202 Ztz->Sq 209 ZHT
 w249:Sq 52 ZGW
 w236:Sq 308 ZIB->Sq 254 c236
 w234:Sq 309 c234
 w196:Sq 232 ZIk->Sq 171 c196
 w195:Sq 232 ZIk
 w198:Sq 135 ZA3->Sq 171 c193->Sq 173 c194->Sq 174 ZIl->Sq 93 c198
 w120:Sq 359 ZHS
 w126:Sq 136 ZFG
 w114:Sq 202 Ztz->Sq 230 Zle->Sq 231 Zhw->Sq 166 ZFg
 w181:Sq 169 ZIf
 w177:Sq 111 ZuI->Sq 121 ZId->Sq 122 ZDW->Sq 123 ZGI->Sq 124 ZIe->Sq 48 ZDY
 w221:Sq 328 ZIv
 w232:Sq 307 ZIA->Sq 251 c232
 w210:Sq 283 c210
 w220:Sq 238 ZFJ->Sq 283 c210->Sq 284 ZGS->Sq 285 ZFh->Sq 287 c218->Sq 286 ZIt->Sq 237 ZIu
 w189:Sq 135 ZA3->Sq 202 Ztz->Sq 125 ZIi
 w224:Sq 237 ZIu->Sq 238 ZFJ->Sq 239 ZIw->Sq 178 ZIx
 w113:Sq 202 Ztz
 w214:Sq 302 c212->Sq 368 c213->Sq 353 ZIr
 w251:Sq 243 ZIL
 w157:Sq 242 c156->Sq 188 c157
 w124:Sq 242 ZHU->Sq 188 c124
 w239:Sq 311 ZIC->Sq 310 ZID
 w156:Sq 273 ZH9->Sq 242 c156
 w160:Sq 228 c159->Sq 274 c160
 w116:Sq 312 c116
 w213:Sq 368 c213
 w112:Sq 24 c1->Sq 29 ZHQ->Sq 8 ZHR
 w65:Sq 71 c37->Sq 128 c55->Sq 129 c56->Sq 130 c64->Sq 53 c65
 w59:Sq 206 c59
 w35:Sq 153 c32->Sq 154 c33->Sq 155 c34->Sq 81 c35
 w85:Sq 131 c23->Sq 105 c85
 w97:Sq 330 c95->Sq 293 c96->Sq 290 c97
 w95:Sq 330 c95
 w28:Sq 343 c27->Sq 317 c28
 w41:Sq 72 c13->Sq 83 c41
 w34:Sq 181 c22->Sq 155 c34
 w13:Sq 72 c13
 w99:Sq 329 c93->Sq 331 c99
 w19:Sq 27 c2->Sq 69 c18->Sq 70 c16->Sq 25 c19
 w72:Sq 218 c69->Sq 219 c70->Sq 161 c71->Sq 152 c72
 w75:Sq 77 c14->Sq 160 c75
 w55:Sq 128 c55
 w80:Sq 27 c2->Sq 28 c54->Sq 34 c79->Sq 26 c80
 w40:Sq 101 c39->Sq 100 c40
 w84:Sq 71 c37->Sq 40 c42->Sq 182 c83->Sq 98 c84
 w47:Sq 265 c47
 w50:Sq 40 c42->Sq 42 c45->Sq 103 c46->Sq 217 c49->Sq 106 c44->Sq 151 c50
 w98:Sq 72 c13->Sq 292 c98
 w86:Sq 132 c86
 w284:Sq 72 c13->Sq 133 ZJa
set_option maxHeartbeats 100000000 in
theorem ws3:Ws3:=by
 refine ⟨(G8 Zv Zm {} Tryz.func338 ?_),
 (λQ b c q i f=>G8 Qi (Zd Q (Zd b (Zd c (Zd q (Zd i (Zd f Zm)))))) {draws:=[(2,[],.u 0 4 (.o [5,6] (.alt 4 (.o [7,8] (.a [9,10] .done)) (.a [9,4] (.o [7,8] (.d 10)))))),(4,[],.u 0 5 (.u 6 5 (.a [5,11] (.o [12,13] .done)))),(5,[],.u 0 13 (.alt 13 (.op 14 (.a [15,16] (.o [17,18,19] (.d 20)))) .done)),(6,[],.u 0 8 (.a [8,9] (.o [10,11,12] (.d 13))))]} Tryz.func112 ?_),
 (λq=>G8 Zv (Zd q Zm) {loops:=[(0,[.reg 6 (.own (.ol 2 (.flat Iq))),.reg 19 (.dat Iq)])]} Tryz.func124 ?_),
 (λq Q b c=>G8 Zv (Zd q (Zd Q (Zd b (Zd c Zm)))) {loops:=[(0,[.reg 27 (.dat Iq),.ent 2 (nat_lit 2) (.flat (Ty.int IntKind.i64))]),(2,[.reg 10 (.dat Iq),.ent 2 (nat_lit 2) (.flat (Ty.int IntKind.i64))])],draws:=[(7,[],.u 0 16 (.alt 16 (.o [17,18] (.d 19)) .done)),(12,[],.u 0 14 (.d 14))]} Tryz.func123 ?_),
 (G8 Qi Zm {draws:=[(2,[],.u 0 10 (.d 10)),(3,[],.u 0 14 (.d 14))]} Tryz.func115 ?_),
 (λq Q b f i c=>G8 ZAv (Zd q (Zd Q (Zd b (Zd f (Zd i (Zd c Zm)))))) {draws:=[(4,[],.u 0 10 (.alt 10 (.op 11 (.alt 12 (.u 13 4 (.a [17,18] .done)) (.a [17,12] (.u 13 4 (.d 18))))) (.a [17,10] (.op 11 (.alt 12 (.u 13 4 (.d 18)) .done))))),(6,[],.o [0,2,3,4] (.alt 1 (.a [5,6] .done) (.a [5,1,6] .done))),(7,[],.u 0 13 (.d 13)),(9,[],.u 0 13 (.alt 13 (.o [14,15,16] (.d 17)) .done)),(10,[],.u 0 11 (.alt 11 (.o [12,13] (.d 14)) .done))]} Tryz.func113 ?_),
 (G8 Zv Zm {} Tryz.func347 ?_),
 (λq=>G8 Zv (Zd q Zm) {} Tryz.func361 ?_),
 (λc Q q b=>G8 Zv (Zd c (Zd Q (Zd q (Zd b Zm)))) {} Tryz.func18 ?_),
 (G8 Zv Zm {} Tryz.func287 ?_),
 (λq=>G8 Zv (Zd q Zm) {} Tryz.func257 ?_),
 (G8 Zv Zm {} Tryz.func252 ?_),
 (λq Q=>G8 Zv (Zd q (Zd Q Zm)) {loops:=[(0,[.reg 5 (.own (.ol 2 (.flat Iq))),.reg 19 (.dat Iq)])]} Tryz.func50 ?_),
 (G8 Zv Zm {} Tryz.func311 ?_),
 (λQ q b=>G8 Zv (Zd Q (Zd q (Zd b Zm))) {loops:=[(0,[.reg 32 (.dat Iq),.ent 1 (nat_lit 2) (.flat Zye.ety)]),(2,[.reg 50 (.dat Iq)])],draws:=[(13,[],.u 0 5 (.alt 5 (.op 6 .done) .done))]} Tryz.func88 ?_),
 (λQ q=>G8 Zv (Zd Q (Zd q Zm)) {loops:=[(0,[.reg 3 (.own (.ol 9 (.flat (.str)))),.reg 9 (.dat Iq)])]} Tryz.func223 ?_),
 (λq=>G8 Zv (Zd q Zm) {draws:=[(1,[],.o [0,1,3,4,6,7,9,10] (.a [2,5,8,11] (.op 12 (.d 13))))]} Tryz.func117 ?_),
 (λQ q=>G8 Zv (Zd Q (Zd q Zm)) {loops:=[(0,[.reg 7 (.dat Iq)])]} Tryz.func272 ?_),
 (λQ q=>G8 Zv (Zd Q (Zd q Zm)) {} Tryz.func371 ?_),
 (λq=>G8 Zv (Zd q Zm) {} Tryz.func209 ?_),
 (G8 Zv Zm {} Tryz.func52 ?_),
 (λq=>G8 Zv (Zd q Zm) {} Tryz.func254 ?_),
 (G8 Zv Zm {} Tryz.func309 ?_),
 (λq=>G8 Zv (Zd q Zm) {loops:=[(0,[.reg 5 (.own (.ol 2 (.flat Iq))),.reg 16 (.dat Iq)])]} Tryz.func171 ?_),
 (G8 Zv Zm {} Tryz.func232 ?_),
 (λb q Q c=>G8 Zv (Zd b (Zd q (Zd Q (Zd c Zm)))) {loops:=[(0,[.reg 20 (.dat Iq),.ent 0 (nat_lit 3) (.flat Zrl.ety)]),(2,[.reg 7 (.own (.ol 2 (.flat Iq))),.reg 43 (.dat Iq),.ent 0 (nat_lit 3) (.flat Zrl.ety)]),(4,[.reg 60 (.dat Iq),.ent 0 (nat_lit 3) (.flat Zrl.ety)])]} Tryz.func93 ?_),
 (G8 Zv Zm {} Tryz.func359 ?_),
 (G8 Zv Zm {loops:=[(0,[.reg 3 (.dat Iq)])],draws:=[(4,[],.u 0 10 .done)]} Tryz.func136 ?_),
 (λb Q q=>G8 Zv (Zd b (Zd Q (Zd q Zm))) {} Tryz.func166 ?_),
 (G8 Zv Zm {} Tryz.func169 ?_),
 (λc Q f b q=>G8 Qi (Zd c (Zd Q (Zd f (Zd b (Zd q Zm))))) {loops:=[(0,[.reg 4 (.dat Iq),.reg 25 (.dat Iq),.cello 1020 6 (.ol 209 (.flat (ZbZ)))]),(2,[.reg 60 (.dat Iq),.ent 4 (nat_lit 2) (.flat Zye.ety),.ent 5 (nat_lit 38) (Dp.ol (2:Go.TypeId) (Dp.flat (Ty.int IntKind.i64)))]),(4,[.reg 88 (.dat Iq),.cello 1020 7 (.ol 2 (.flat Iq)),.cello 1020 8 (.ol 38 (.ol 2 (.flat Iq))),.cello 1020 6 (.ol (nat_lit 209) (.flat ZbZ)),.ent 5 (nat_lit 38) (Dp.ol (2:Go.TypeId) (Dp.flat (Ty.int IntKind.i64)))]),(6,[.reg 122 (.dat Iq),.cello 1020 6 (.ol (nat_lit 209) (.flat ZbZ))]),(8,[.reg 127 (.dat Iq),.cello 1020 6 (.ol (nat_lit 209) (.flat ZbZ))])],draws:=[(1,[],.o [0,1,2] (.alt 3 (.op 4 (.alt 5 (.op 6 .done) .done)) .done)),(6,[],.u 0 8 (.a [8,9] (.o [10,11] (.d 12)))),(16,[],.o [0,1] (.u 3 6 (.ld 2 (.a [9,10] (.op 11 (.d 12)))))),(21,[],.u 0 7 (.alt 7 (.o [8,9] (.a [10,11] (.o [12,13] (.d 14)))) .done)),(22,[],.u 0 7 (.a [7,8,9] (.o [10,11] (.d 12)))),(29,[],.u 0 18 (.a [18,19] (.o [20,21] (.d 22))))]} Tryz.func48 ?_),
 (G8 Zv Zm {loops:=[(0,[.reg 3 (.dat Iq),.reg 4 (.dat Iq)])]} Tryz.func328 ?_),
 (λq=>G8 Zv (Zd q Zm) {} Tryz.func251 ?_),
 (G8 Zv Zm {draws:=[(1,[],.u 0 18 (.a [18,19] .done)),(2,[],.u 0 15 (.d 15))]} Tryz.func283 ?_),
 (λb c Q f q i=>G8 Zv (Zd b (Zd c (Zd Q (Zd f (Zd q (Zd i Zm)))))) {draws:=[(5,[],.o [0,1,4,5,6] (.u 9 9 (.alt 2 (.o [3,7,8] (.alt 18 (.op 19 .done) .done)) .done))),(6,[],.u 0 12 (.alt 12 (.op 13 .done) .done))]} Tryz.func237 ?_),
 (λq Q=>G8 Zv (Zd q (Zd Q Zm)) {} Tryz.func125 ?_),
 (λq Q b=>G8 Zv (Zd q (Zd Q (Zd b Zm))) {draws:=[(1,[],.u 0 6 .done),(2,[],.u 0 4 (.u 5 4 (.u 11 4 (.u 16 4 (.alt 4 (.alt 9 (.op 10 (.alt 15 (.alt 20 (.o [21,22] (.a [23,24] .done)) (.a [23,20] (.o [21,22] (.d 24)))) (.a [23,15,20] (.o [21,22] (.d 24))))) (.a [23,9] (.op 10 (.a [15,20] (.o [21,22] (.d 24)))))) (.a [23,4,9] (.op 10 (.a [15,20] (.o [21,22] (.d 24)))))))))),(5,[],.u 0 6 (.alt 6 (.o [7,8,9] .done) .done)),(8,[],.op 0 (.alt 1 (.a [2,3] .done) (.a [2,1,3] .done)))]} Tryz.func178 ?_),
 (G8 Zv Zm {} Tryz.func202 ?_),
 (λQ q=>G8 Zv (Zd Q (Zd q Zm)) {loops:=[(0,[.reg 7 (.dat Iq),.reg 8 (.dat Iq)])]} Tryz.func353 ?_),
 (G8 Zv Zm {} Tryz.func243 ?_),
 (λq=>G8 Zv (Zd q Zm) {} Tryz.func188 ?_),
 (λq=>G8 Zv (Zd q Zm) {} Tryz.func188 ?_),
 (λq=>G8 Zv (Zd q Zm) {loops:=[(0,[.reg 8 (.dat Iq)])]} Tryz.func310 ?_),
 (λq=>G8 Zv (Zd q Zm) {loops:=[(0,[.reg 8 (.dat Iq)])]} Tryz.func242 ?_),
 (λq=>G8 Zv (Zd q Zm) {loops:=[(0,[.reg 8 (.dat Iq)])]} Tryz.func274 ?_),
 (G8 Zv Zm {loops:=[(0,[.reg 8 (.dat Iq)])]} Tryz.func312 ?_),
 (G8 Zv Zm {} Tryz.func368 ?_),
 (λq Q=>G8 Zv (Zd q (Zd Q Zm)) {} Tryz.func8 ?_),
 (λc q Q b=>G8 Zv (Zd c (Zd q (Zd Q (Zd b Zm)))) {} Tryz.func53 ?_),
 (G8 Zv Zm {loops:=[(0,[.reg 5 (.dat Iq)])]} Tryz.func206 ?_),
 (λq Q b=>G8 Zv (Zd q (Zd Q (Zd b Zm))) {loops:=[(0,[.reg 5 (.own (.ol 9 (.flat (.str)))),.reg 6 (.dat Iq)]),(2,[.reg 7 (.own (.ol 9 (.flat (.str)))),.reg 8 (.dat Iq)]),(4,[.reg 10 (.dat Iq),.ent 6 (nat_lit 2) (.flat Zye.ety)]),(6,[.reg 12 (.dat Iq),.ent 6 (nat_lit 2) (.flat Zye.ety)]),(8,[.reg 13 (.dat Iq)])]} Tryz.func81 ?_),
 (λq=>G8 Zv (Zd q Zm) {} Tryz.func105 ?_),
 (λq Q=>G8 Zv (Zd q (Zd Q Zm)) {loops:=[(0,[.reg 16 (.dat Iq),.reg 17 (.dat Iq)]),(2,[.reg 16 (.dat Iq),.reg 18 (.dat Iq)])]} Tryz.func290 ?_),
 (G8 Zv Zm {loops:=[(0,[.reg 8 (.dat Iq)])],draws:=[(10,[],.u 0 17 .done)]} Tryz.func330 ?_),
 (λq=>G8 Zv (Zd q Zm) {loops:=[(0,[.reg 5 (.dat Iq)])]} Tryz.func317 ?_),
 (λq=>G8 Zv (Zd q Zm) {loops:=[(0,[.reg 6 (.dat Iq)])]} Tryz.func83 ?_),
 (λq=>G8 Zv (Zd q Zm) {loops:=[(0,[.reg 3 (.dat Iq)]),(2,[.reg 4 (.dat Iq)])],draws:=[(9,[],.u 0 9 .done)]} Tryz.func155 ?_),
 (G8 Zv Zm {loops:=[(0,[.reg 3 (.own (.ol 154 (.flat (ZgK)))),.reg 4 (.dat Iq)]),(2,[.reg 3 (.own (.ol 154 (.flat (ZgK)))),.reg 6 (.dat Iq)]),(4,[.reg 3 (.own (.ol 154 (.flat (ZgK)))),.reg 7 (.dat Iq)])],draws:=[(13,[],.u 0 16 (.a [16,17] (.op 18 .done)))]} Tryz.func72 ?_),
 (λq=>G8 Zv (Zd q Zm) {loops:=[(0,[.reg 7 (.own (.ol 2 (.flat Iq))),.reg 8 (.dat Iq)])],draws:=[(7,[],.u 0 20 (.a [20,21] (.op 22 .done)))]} Tryz.func331 ?_),
 (λq Q b=>G8 Qi (Zd q (Zd Q (Zd b Zm))) {draws:=[(7,[],.op 0 (.u 2 7 (.ld 1 (.alt 9 (.a [10,11] (.o [12,13] (.d 14))) (.a [10,9,11] (.o [12,13] (.d 14))))))),(11,[],.o [0,2,7] (.ld 1 (.o [3,4] (.alt 5 (.alt 6 (.alt 8 (.o [9,10,11] (.d 12)) .done) (.a [8,6] (.o [9,10,11] (.d 12)))) (.alt 6 (.alt 5 (.alt 8 (.o [9,10,11] (.d 12)) .done) (.alt 8 (.o [9,10] (.alt 5 (.op 11 (.d 12)) .done)) .done)) (.alt 8 (.alt 5 (.alt 6 (.o [9,10,11] (.d 12)) .done) (.alt 6 (.o [9,10] (.alt 5 (.op 11 (.d 12)) .done)) .done)) .done)))))),(13,[],.o [0,2,6,8,14] (.ld 1 (.o [3,4] (.ld 7 (.o [9,10] (.alt 5 (.alt 11 (.o [12,13] (.alt 15 (.o [16,17] (.d 18)) .done)) (.alt 15 (.op 16 (.alt 11 (.o [12,13,17] (.d 18)) .done)) .done)) (.alt 11 (.o [12,13] (.alt 5 (.alt 15 (.o [16,17] (.d 18)) .done) (.alt 15 (.op 16 (.alt 5 (.op 17 (.d 18)) .done)) .done))) (.alt 15 (.op 16 (.alt 5 (.alt 11 (.o [12,13,17] (.d 18)) .done) (.alt 11 (.o [12,13] (.alt 5 (.op 17 (.d 18)) .done)) .done))) .done))))))))]} Tryz.func25 ?_),
 (λq b Q=>G8 Qi (Zd q (Zd b (Zd Q Zm))) {loops:=[(0,[.reg 4 (.dat Iq),.cello 1003 4 (.ol 40 (ZoD))])],draws:=[(1,[],.o [0,1,3,4] (.alt 2 (.alt 5 (.op 6 (.a [7,8] .done)) (.a [7,5] (.op 6 (.d 8)))) (.a [7,2,5] (.op 6 (.d 8))))),(5,[],.u 0 7 (.a [7,8,9] (.op 10 (.d 11))))]} Tryz.func152 ?_),
 (λq=>G8 Qi (Zd q Zm) {loops:=[(0,[.reg 5 (.dat Iq),.ent 4 (nat_lit 40) (Dp.pair (Dp.ol (2:Go.TypeId) (Dp.flat (Ty.int IntKind.i64))) (Dp.pair (Dp.ol (2:Go.TypeId) (Dp.flat (Ty.int IntKind.i64))) (Dp.pair (Dp.ol (2:Go.TypeId) (Dp.flat (Ty.int IntKind.i64))) (Dp.pair (Dp.ol (2:Go.TypeId) (Dp.flat (Ty.int IntKind.i64))) (Dp.flat Ty.unit)))))]),(2,[.reg 6 (.own (.ol 2 (.flat Iq))),.reg 8 (.dat Iq)])]} Tryz.func160 ?_),
 (G8 Zv Zm {} Tryz.func128 ?_),
 (λQ b q=>G8 Qi (Zd Q (Zd b (Zd q Zm))) {loops:=[(0,[.reg 7 (.own (.ol 42 (ZuY))),.reg 9 (.dat Iq),.cell 0 0 (.sl (.int .u8)),.cell 0 1 Iq,.cell 0 2 Iq,.cell 3 0 (.sl (ZcQ)),.cell 3 1 (.sl (Js)),.cell 3 2 (.sl (.str)),.cell 3 3 (.sl (Zo6)),.cell 3 4 (.sl (ZcR))])]} Tryz.func26 ?_),
 (λq=>G8 Qi (Zd q Zm) {loops:=[(0,[.reg 0 (.own (.ol 209 (.flat (ZbZ)))),.reg 11 (.dat Iq)]),(2,[.reg 0 (.own (.ol 209 (.flat (ZbZ)))),.reg 12 (.dat Iq)])]} Tryz.func100 ?_),
 (λb Q q=>G8 Zv (Zd b (Zd Q (Zd q Zm))) {} Tryz.func98 ?_),
 (G8 Zv Zm {loops:=[(0,[.reg 12 (.dat (.bool)),.ent 0 (nat_lit 4) (.flat Zyf.ety)]),(2,[.reg 12 (.dat (.bool)),.reg 13 (.dat Iq),.ent 0 (nat_lit 4) (.flat Zyf.ety)])],draws:=[(9,[],.u 0 12 .done)]} Tryz.func265 ?_),
 (λq c Q b f=>G8 Zv (Zd q (Zd c (Zd Q (Zd b (Zd f Zm))))) {loops:=[(0,[.ent 3 (nat_lit 4) (.flat Ty.bool)]),(4,[.reg 9 (.own (.ol 2 (.flat Iq))),.reg 10 (.dat Iq)]),(2,[.reg 7 (.dat Iq),.reg 8 (.dat Iq),.ent 4 (nat_lit 38) (Dp.ol (2:Go.TypeId) (Dp.flat (Ty.int IntKind.i64)))])],draws:=[(10,[],.u 0 21 (.alt 21 (.u 22 10 (.alt 32 (.op 33 .done) .done)) .done))]} Tryz.func151 ?_),
 (λq=>G8 Zv (Zd q Zm) {draws:=[(1,[],.o [0,1,3,4,5] (.alt 2 (.u 6 4 .done) .done))]} Tryz.func292 ?_),
 (G8 Zv Zm {} Tryz.func132 ?_),
 (λq=>G8 Zv (Zd q Zm) {loops:=[(0,[.reg 5 (.own (.ol 2 (.flat Iq))),.reg 8 (.dat Iq)])]} Tryz.func133 ?_)⟩
 all_goals
  intro a;repeat rcases a with⟨_,a⟩
  rintro K ⟨r,h,k⟩;repeat'
    conv=>whnf
    first
    |with_reducible refine ZhV ?_
    |with_reducible refine Zj0 (by assumption) (by assumption) (by assumption) ?_
    |with_reducible refine Z6 (by assumption) ?_
    |with_reducible refine Zj9 (by assumption) ?_
    |(with_reducible refine shD ?_);first|refine ZhT h (λh=>?_) (λh=>?_)|refine ZCW h (λh=>?_) (λh=>?_)
    |(with_reducible refine ZCi ?_);first|refine ZDG ?_|refine ZqR ?_
    |(with_reducible refine ZHj ?_);first|refine Zx6 h (λh=>?_) (λh=>?_)|refine ZCV h (λh=>?_) (λh=>?_)
    |(with_reducible refine ZCh ?_);(refine⟨λN=>?_,?_⟩)<;>try subst N
    |(with_reducible refine ZHl ?_);first|with_reducible refine Xu h (λx H h=>?_)|refine Zj9 (by assumption) ?_|with_reducible refine pG h (λg h=>?_)|with_reducible refine pA h (λx n H l h=>?_)|with_reducible refine pB h (λx H h=>?_)|refine Xu h (λx H h=>?_)
    |(with_reducible refine ZHi ?_);first|with_reducible refine vAt h (λx n H l h=>?_)|refine Zj0 (by assumption) (by assumption) (by assumption) ?_|with_reducible refine pG h (λg h=>?_)|with_reducible refine pA h (λx n H l h=>?_)|with_reducible refine pB h (λx H h=>?_)|refine vAt h (λx n H l h=>?_)
    |(with_reducible refine ZCg ?_);first|with_reducible refine ZuD h (λx H h=>?_)|refine Z6 (by assumption) ?_|with_reducible refine pG h (λg h=>?_)|with_reducible refine pA h (λx n H l h=>?_)|with_reducible refine pB h (λx H h=>?_)|refine ZuD h (λx H h=>?_)
    |with_reducible refine ZHk ?_
    |(with_reducible refine Zw0 ?_);refine Zw9 h k ?_;clear h k;intro I μ v r h k;(repeat rcases v with⟨_,v⟩);(try dsimp only at h)
    |with_reducible refine⟨by assumption,?_⟩
    |with_reducible refine orL ?_
    |with_reducible refine .inr ?_
    |(with_reducible refine ZCj ?_);first|refine⟨?_,True.intro⟩|refine⟨?_,?_⟩
    |refine⟨by kernel_rfl,?_⟩
    |refine⟨by decide,?_⟩
    |with_reducible refine ZrX h (λg h=>?_)
    |intro p
    |exact trivial
    |with_reducible exact ZBi h
    |(refine pS h (λe=>?_));subst e;(repeat (first|exact k|exact⟨⟨rfl,rfl⟩,k.1 _ rfl⟩|(refine pR k (λe k=>?_));subst e));done
    |refine ZrX h (λg h=>?_)
    |refine⟨by assumption,?_⟩
    |with_reducible refine pG h (λg h=>?_)|with_reducible refine pA h (λx n H l h=>?_)|with_reducible refine pB h (λx H h=>?_)
    |refine pG h (λg h=>?_)
    |fail
theorem w_laws_FnIncremental (Q:Sq 6 c0) (d:Sq 8 ZHR) (g:Sq 11 c228) (i:Sq 12 ZGE) (f:Sq 13 ZI8) (n:Sq 14 ZI9) (j:Sq 15 ZGX) (l:Sq 16 ZJc) (m:Sq 17 ZJd) (p:Sq 18 ZJi) (q:Sq 19 ZJj) (o:Sq 20 ZJl):Sq 4 ZgX:=by
 refine G8 Zv (Zd Q (Zd d (Zd g (Zd i (Zd f (Zd n (Zd j (Zd l (Zd m (Zd p (Zd q (Zd o Zm)))))))))))) {loops:=[(0,[.reg 27 (.dat Iq)])]} Tryz.func4 ?_;rintro⟨a0,⟨⟩⟩ K ⟨r,h,k⟩
 change Za4 a0=some r at h
 unfold Za4 at h
 conv=>whnf
 refine Xu h (λ_ _ h=>?_)
 conv=>whnf
 refine Zx6 h (λh=>?_) (λh=>?_)
 conv=>whnf
 cases h;exact k
 conv=>whnf
 refine Xu h (λ_ _ h=>?_)
 conv=>whnf
 refine Xu h (λ_ _ h=>?_)
 conv=>whnf
 refine Xu h (λ_ _ h=>?_)
 conv=>whnf
 refine ZqR ?_;refine ZhT h (λh=>?_) (λh=>?_)
 conv=>whnf
 refine ZqR ?_;refine ZhT h (λh=>?_) (λh=>?_)
 conv=>whnf
 refine Xu h (λIncrementalTiming0 _ h=>?_)
 conv=>whnf
 refine Xu h (λ_ _ h=>?_)
 iterate 3 ((conv=>whnf);intro _)
 conv=>whnf
 refine Xu h (λ_ _ h=>?_)
 conv=>whnf
 refine Xu h (λ_ _ h=>?_)
 conv=>whnf
 refine ZqR ?_;refine ZhT h (λh=>?_) (λh=>?_)
 conv=>whnf
 refine ZDG ?_;refine ZhT h (λh=>?_) (λh=>?_)
 conv=>whnf
 refine ZqR ?_;refine ZhT h (λh=>?_) (λh=>?_)
 conv=>whnf
 refine Xu h (λPropagateTiming2 _ h=>?_)
 conv=>whnf
 refine ZDG ?_;refine ZhT h (λh=>?_) (λh=>?_)
 conv=>whnf
 refine ZqR ?_;refine ZhT h (λh=>?_) (λh=>?_)
 conv=>whnf
 refine Xu h (λDirtyNodes0 _ h=>?_)
 conv=>whnf
 refine Xu h (λConeOf0 _ h=>?_)
 conv=>whnf
 refine ZvU h ?_;rintro I14 s ⟨v0,⟨⟩⟩ z h a H
 change XD IncrementalTiming0 PropagateTiming2 DirtyNodes0 ConeOf0 v0=some z at h
 unfold XD at h
 conv=>whnf
 refine ZhT h (λh=>?_) (λh=>?_)
 conv=>whnf
 refine vAt h (λX b c e h=>?_)
 conv=>whnf
 refine⟨by kernel_rfl,?_⟩
 conv=>whnf
 refine⟨b,c,Z6 e ?_⟩
 conv=>whnf
 refine Xu h (λ_ _ h=>?_)
 conv=>whnf
 refine ZqR ?_;refine Zx6 h (λh=>?_) (λh=>?_)
 conv=>whnf
 cases h;exact⟨⟨rfl,rfl⟩,a _ rfl⟩
 conv=>whnf
 cases h;obtain rfl:=H _ rfl;exact k
 conv=>whnf
 refine ZhT h (λh=>?_) (λh=>?_)
 conv=>whnf
 refine Xu h (λ_ _ h=>?_)
 conv=>whnf
 refine Zx6 h (λh=>?_) (λh=>?_)
 conv=>whnf
 refine ZhT h (λh=>?_) (λh=>?_)
 conv=>whnf
 cases h;obtain rfl:=H _ rfl;exact k
 conv=>whnf
 cases h;obtain rfl:=H _ rfl;exact k
 conv=>whnf
 cases h;obtain rfl:=H _ rfl;exact k
 conv=>whnf
 cases h;obtain rfl:=H _ rfl;exact k
 conv=>whnf
 cases h;exact k
 conv=>whnf
 cases h;exact k
 conv=>whnf
 cases h;exact k
 conv=>whnf
 cases h;exact k
 conv=>whnf
 cases h;exact k
 conv=>whnf
 cases h;exact k
 conv=>whnf
 cases h;exact k
theorem Zoa (R:Int->Option (List UInt8)) (c:Sq 75 (Zds R)):Sq 75 (Zds (XA R)):=by
 refine G8 Zv (Zd c Zm) {draws:=[(5,[],.o [0,1,3,4,5] (.alt 2 (.a [6,7,8] (.o [9,10] .done)) (.alt 6 (.alt 2 (.a [7,8] (.o [9,10] .done)) (.alt 7 (.alt 2 (.alt 8 (.o [9,10] .done) .done) (.a [8,2] (.o [9,10] .done))) .done)) .done)))]} Tryz.func75 ?_;rintro⟨n0,⟨⟩⟩ K ⟨r,h,k⟩
 change XA R n0=some r at h
 unfold XA at h
 conv=>whnf
 refine ZhT h (λh=>?_) (λh=>?_)
 conv=>whnf
 refine Xu h (λf d h=>?_)
 conv=>whnf
 refine ZrX h (λe h=>?_)
 conv=>whnf
 cases h;exact k
 conv=>whnf
 refine ZhT h (λh=>?_) (λh=>?_)
 conv=>whnf
 cases h;exact k
 focus
  conv=>whnf
  refine⟨by kernel_rfl,?_⟩
  conv=>whnf
  refine⟨by decide,?_⟩
  conv=>whnf
  refine⟨by decide,?_⟩
  conv=>whnf
  obtain⟨f,b,h⟩:=UE.1 h;obtain⟨H,h⟩:=guardE h;refine⟨?_,?_⟩;rotate_left
  focus
   conv=>whnf
   refine⟨?_,?_⟩;rotate_left
   focus
    conv=>whnf
    refine⟨?_,?_⟩;rotate_left
    focus
     conv=>whnf
     refine⟨_,b,?_⟩
     conv=>whnf
     refine⟨H,?_⟩
     conv=>whnf
     refine⟨trivial,?_⟩
    rotate_right
    focus
     conv=>whnf
     refine⟨_,b,?_⟩
     conv=>whnf
     refine⟨H,?_⟩
     conv=>whnf
     refine⟨trivial,?_⟩
   rotate_right
   focus
    conv=>whnf
    refine⟨_,b,?_⟩
    conv=>whnf
    refine⟨H,?_⟩
    conv=>whnf
    refine⟨trivial,?_⟩
  rotate_right
  focus
   conv=>whnf
   refine⟨_,b,?_⟩
   conv=>whnf
   refine⟨H,?_⟩
   conv=>whnf
   refine⟨trivial,?_⟩
  all_goals
   conv=>whnf
   cases h;exact k
theorem w11:Sq 75 c11:=by
 have f:∀n,Sq 75 (Zds (VJ n)):=by
  intro n;induction n with
  |zero =>
  refine G8 Zv Zm {draws:=[(5,[],.o [0,1,3,4,5] (.alt 2 (.a [6,7,8] (.o [9,10] .done)) (.alt 6 (.alt 2 (.a [7,8] (.o [9,10] .done)) (.alt 7 (.alt 2 (.alt 8 (.o [9,10] .done) .done) (.a [8,2] (.o [9,10] .done))) .done)) .done)))]} Tryz.func75 ?_;rintro⟨n0,⟨⟩⟩ K ⟨r,h,k⟩;cases h
  |succ n I=>exact Zoa _ I
 refine⟨(f 0).1,?_⟩;rintro w S vs ⟨n0,⟨⟩⟩ p K d H g i ⟨r,h,k⟩;obtain⟨n,F⟩:=Zz0 h;exact(f n).2 w S vs _ p K d H g i ⟨r,F,k⟩
theorem w76 (S:Sq 72 c13) (V:Sq 158 c73) (W:Sq 70 c16) (R:Sq 159 c74) (T:Sq 147 c15) (U:Sq 160 c75):Sq 156 c76:=by
 refine G8 Qi (Zd S (Zd V (Zd W (Zd R (Zd T (Zd U Zm)))))) {draws:=[(1,[],.o [0,1,3,4] (.alt 2 (.o [5,6] (.a [7,8] .done)) (.a [7,2] (.o [5,6] (.d 8))))),(5,[],.o [0,1] (.u 4 5 (.alt 2 (.alt 3 (.a [9,10] (.op 11 .done)) (.a [9,3,10] (.op 11 .done))) (.a [9,2,3,10] (.op 11 .done))))),(14,[],.u 0 4 (.o [6,7,9,13,14] (.l [8,10,15] (.alt 4 (.alt 5 (.alt 11 (.alt 12 (.op 16 (.a [17,18] .done)) (.a [17,12] (.op 16 (.d 18)))) (.a [17,11,12] (.op 16 (.d 18)))) (.alt 11 (.alt 5 (.alt 12 (.op 16 (.a [17,18] .done)) (.a [17,12] (.op 16 (.d 18)))) (.a [17,5,12] (.op 16 (.d 18)))) (.alt 17 (.alt 5 (.a [11,12] (.op 16 (.d 18))) (.a [11,5,12] (.op 16 (.d 18)))) .done))) (.alt 11 (.alt 4 (.alt 5 (.alt 12 (.op 16 (.a [17,18] .done)) (.a [17,12] (.op 16 (.d 18)))) (.a [17,5,12] (.op 16 (.d 18)))) (.a [17,4,5,12] (.op 16 (.d 18)))) (.alt 17 (.alt 4 (.alt 5 (.a [11,12] (.op 16 (.d 18))) (.a [11,5,12] (.op 16 (.d 18)))) (.a [11,4,5,12] (.op 16 (.d 18)))) .done)))))),(15,[],.o [0,3,4,9] (.l [1,2] (.a [5,6,7] (.op 8 (.a [10,11] .done)))))]} Tryz.func156 ?_;rintro⟨a0,Q,⟨⟩⟩ K ⟨r,h,J⟩
 change ZcI a0 Q=some r at h
 unfold ZcI at h
 focus
  iterate 4 ((conv=>whnf);first|intro _|refine⟨by kernel_rfl,?_⟩)
  conv=>whnf
  obtain⟨p,D,h⟩:=UE.1 h;obtain⟨Y,k,m,x,h⟩:=atE h;refine⟨?_,?_⟩;rotate_left
  focus
   conv=>whnf
   refine⟨_,D,?_⟩
   conv=>whnf
   refine⟨k,m,Z6 x ?_⟩
   conv=>whnf
   refine⟨by kernel_rfl,?_⟩
   conv=>whnf
   refine⟨k,m,Z6 x ?_⟩
   conv=>whnf
   refine⟨trivial,?_⟩
  rotate_right
  focus
   conv=>whnf
   refine⟨_,D,?_⟩
   conv=>whnf
   refine⟨k,m,Z6 x ?_⟩
   conv=>whnf
   refine⟨by kernel_rfl,?_⟩
   conv=>whnf
   refine⟨k,m,Z6 x ?_⟩
   conv=>whnf
   refine⟨trivial,?_⟩
  all_goals
   focus
    conv=>whnf
    refine Xu h (λ_ _ h=>?_)
    conv=>whnf
    refine⟨by kernel_rfl,?_⟩
    conv=>whnf
    refine vAt h (λZ E G I h=>?_)
    conv=>whnf
    refine⟨by kernel_rfl,?_⟩
    conv=>whnf
    refine⟨E,G,Z6 I ?_⟩
    conv=>whnf
    obtain⟨A,h⟩:=guardE h;obtain⟨B,h⟩:=guardE h;obtain⟨C,q,h⟩:=UE.1 h;obtain⟨n,h⟩:=guardE h;refine⟨?_,?_⟩;rotate_left
    focus
     conv=>whnf
     refine⟨by decide,?_⟩
     conv=>whnf
     refine⟨A,?_⟩
     conv=>whnf
     refine⟨B,?_⟩
     conv=>whnf
     refine⟨_,q,?_⟩
     conv=>whnf
     refine⟨n,?_⟩
     conv=>whnf
     refine⟨trivial,?_⟩
    rotate_right
    focus
     conv=>whnf
     refine⟨by decide,?_⟩
     conv=>whnf
     refine⟨A,?_⟩
     conv=>whnf
     refine⟨B,?_⟩
     conv=>whnf
     refine⟨?_,?_⟩;rotate_left
     focus
      conv=>whnf
      refine⟨_,q,?_⟩
      conv=>whnf
      refine⟨n,?_⟩
      conv=>whnf
      refine⟨trivial,?_⟩
     rotate_right
     focus
      conv=>whnf
      refine⟨_,q,?_⟩
      conv=>whnf
      refine⟨n,?_⟩
      conv=>whnf
      refine⟨trivial,?_⟩
    all_goals
     conv=>whnf
     refine⟨A,?_⟩
     conv=>whnf
     refine⟨B,?_⟩
     conv=>whnf
     refine ZrX h (λM h=>?_)
     conv=>whnf
     refine ZrX h (λN h=>?_)
     conv=>whnf
     refine Xu h (λ_ _ h=>?_)
     conv=>whnf
     intro _
     conv=>whnf
     refine ZhT h (λh=>?_) (λh=>?_)
     focus
      conv=>whnf
      refine vAt h (λX s t v h=>?_)
      iterate 2 ((conv=>whnf);first|refine⟨by kernel_rfl,?_⟩|refine⟨by decide,?_⟩)
      conv=>whnf
      refine⟨s,t,Z6 v ?_⟩
      iterate 4 ((conv=>whnf);refine⟨by kernel_rfl,?_⟩)
      conv=>whnf
      obtain⟨c,h⟩:=guardE h;obtain⟨H,h⟩:=guardE h;refine⟨?_,?_⟩;rotate_left
      focus
       conv=>whnf
       refine⟨?_,?_⟩;rotate_left
       focus
        conv=>whnf
        refine⟨?_,?_⟩;rotate_left
        focus
         conv=>whnf
         intro i
         conv=>whnf
         refine⟨by kernel_rfl,?_⟩
         conv=>whnf
         refine⟨c,?_⟩
         conv=>whnf
         intro f
         conv=>whnf
         refine⟨by kernel_rfl,?_⟩
         conv=>whnf
         refine⟨H,?_⟩
         conv=>whnf
         refine⟨trivial,?_⟩
        rotate_right
        focus
         conv=>whnf
         intro i
         conv=>whnf
         refine⟨?_,?_⟩;rotate_left
         focus
          conv=>whnf
          refine⟨by kernel_rfl,?_⟩
          conv=>whnf
          refine⟨c,?_⟩
          conv=>whnf
          intro f
          conv=>whnf
          refine⟨by kernel_rfl,?_⟩
          conv=>whnf
          refine⟨H,?_⟩
          conv=>whnf
          refine⟨trivial,?_⟩
         rotate_right
         focus
          conv=>whnf
          refine⟨by kernel_rfl,?_⟩
          conv=>whnf
          refine⟨c,?_⟩
          conv=>whnf
          intro f
          conv=>whnf
          refine⟨by kernel_rfl,?_⟩
          conv=>whnf
          refine⟨H,?_⟩
          conv=>whnf
          refine⟨trivial,?_⟩
       rotate_right
       focus
        conv=>whnf
        refine⟨?_,?_⟩;rotate_left
        focus
         conv=>whnf
         intro i
         conv=>whnf
         refine⟨by kernel_rfl,?_⟩
         conv=>whnf
         refine⟨c,?_⟩
         conv=>whnf
         intro f
         conv=>whnf
         refine⟨by kernel_rfl,?_⟩
         conv=>whnf
         refine⟨H,?_⟩
         conv=>whnf
         refine⟨trivial,?_⟩
        rotate_right
        focus
         conv=>whnf
         intro i
         conv=>whnf
         refine⟨?_,?_⟩;rotate_left
         focus
          conv=>whnf
          refine⟨by kernel_rfl,?_⟩
          conv=>whnf
          refine⟨c,?_⟩
          conv=>whnf
          intro f
          conv=>whnf
          refine⟨by kernel_rfl,?_⟩
          conv=>whnf
          refine⟨H,?_⟩
          conv=>whnf
          refine⟨trivial,?_⟩
         rotate_right
         focus
          conv=>whnf
          refine⟨by kernel_rfl,?_⟩
          conv=>whnf
          refine⟨c,?_⟩
          conv=>whnf
          intro f
          conv=>whnf
          refine⟨?_,?_⟩;rotate_left
          focus
           conv=>whnf
           refine⟨by kernel_rfl,?_⟩
           conv=>whnf
           refine⟨H,?_⟩
           conv=>whnf
           refine⟨trivial,?_⟩
          rotate_right
          focus
           conv=>whnf
           refine⟨by kernel_rfl,?_⟩
           conv=>whnf
           refine⟨H,?_⟩
           conv=>whnf
           refine⟨trivial,?_⟩
      rotate_right
      focus
       conv=>whnf
       intro i
       conv=>whnf
       refine⟨?_,?_⟩;rotate_left
       focus
        conv=>whnf
        refine⟨?_,?_⟩;rotate_left
        focus
         conv=>whnf
         refine⟨?_,?_⟩;rotate_left
         focus
          conv=>whnf
          refine⟨by kernel_rfl,?_⟩
          conv=>whnf
          refine⟨c,?_⟩
          conv=>whnf
          intro f
          conv=>whnf
          refine⟨by kernel_rfl,?_⟩
          conv=>whnf
          refine⟨H,?_⟩
          conv=>whnf
          refine⟨trivial,?_⟩
         rotate_right
         focus
          conv=>whnf
          refine⟨by kernel_rfl,?_⟩
          conv=>whnf
          refine⟨c,?_⟩
          conv=>whnf
          intro f
          conv=>whnf
          refine⟨by kernel_rfl,?_⟩
          conv=>whnf
          refine⟨H,?_⟩
          conv=>whnf
          refine⟨trivial,?_⟩
        rotate_right
        focus
         conv=>whnf
         refine⟨?_,?_⟩;rotate_left
         focus
          conv=>whnf
          refine⟨by kernel_rfl,?_⟩
          conv=>whnf
          refine⟨c,?_⟩
          conv=>whnf
          intro f
          conv=>whnf
          refine⟨by kernel_rfl,?_⟩
          conv=>whnf
          refine⟨H,?_⟩
          conv=>whnf
          refine⟨trivial,?_⟩
         rotate_right
         focus
          conv=>whnf
          refine⟨by kernel_rfl,?_⟩
          conv=>whnf
          refine⟨c,?_⟩
          conv=>whnf
          intro f
          conv=>whnf
          refine⟨?_,?_⟩;rotate_left
          focus
           conv=>whnf
           refine⟨by kernel_rfl,?_⟩
           conv=>whnf
           refine⟨H,?_⟩
           conv=>whnf
           refine⟨trivial,?_⟩
          rotate_right
          focus
           conv=>whnf
           refine⟨by kernel_rfl,?_⟩
           conv=>whnf
           refine⟨H,?_⟩
           conv=>whnf
           refine⟨trivial,?_⟩
       rotate_right
       focus
        conv=>whnf
        refine⟨by kernel_rfl,?_⟩
        conv=>whnf
        refine⟨c,?_⟩
        conv=>whnf
        intro f
        conv=>whnf
        refine⟨?_,?_⟩;rotate_left
        focus
         conv=>whnf
         refine⟨by kernel_rfl,?_⟩
         conv=>whnf
         refine⟨H,?_⟩
         conv=>whnf
         refine⟨trivial,?_⟩
        rotate_right
        focus
         conv=>whnf
         refine⟨?_,?_⟩;rotate_left
         focus
          conv=>whnf
          refine⟨by kernel_rfl,?_⟩
          conv=>whnf
          refine⟨H,?_⟩
          conv=>whnf
          refine⟨trivial,?_⟩
         rotate_right
         focus
          conv=>whnf
          refine⟨by kernel_rfl,?_⟩
          conv=>whnf
          refine⟨H,?_⟩
          conv=>whnf
          refine⟨trivial,?_⟩
      all_goals
       iterate 3 ((conv=>whnf);refine⟨by kernel_rfl,?_⟩)
       conv=>whnf
       refine Xu h (λL _ h=>?_)
       iterate 2 ((conv=>whnf);first|intro _|refine⟨by kernel_rfl,?_⟩)
       conv=>whnf
       refine ZrX h (λO h=>?_)
       conv=>whnf
       intro _
       conv=>whnf
       refine Xu h (λg _ h=>?_)
       iterate 3 ((conv=>whnf);intro _)
       conv=>whnf
       refine⟨trivial,?_⟩
       conv=>whnf
       cases h;exact J
     focus
      conv=>whnf
      refine vAt h (λX w y z h=>?_)
      iterate 2 ((conv=>whnf);first|refine⟨by kernel_rfl,?_⟩|refine⟨by decide,?_⟩)
      conv=>whnf
      refine⟨w,y,Z6 z ?_⟩
      iterate 4 ((conv=>whnf);refine⟨by kernel_rfl,?_⟩)
      conv=>whnf
      obtain⟨e,h⟩:=guardE h;obtain⟨b,h⟩:=guardE h;refine⟨?_,?_⟩;rotate_left
      focus
       conv=>whnf
       refine⟨?_,?_⟩;rotate_left
       focus
        conv=>whnf
        refine⟨?_,?_⟩;rotate_left
        focus
         conv=>whnf
         intro j
         conv=>whnf
         refine⟨by kernel_rfl,?_⟩
         conv=>whnf
         refine⟨e,?_⟩
         conv=>whnf
         intro F
         conv=>whnf
         refine⟨by kernel_rfl,?_⟩
         conv=>whnf
         refine⟨b,?_⟩
         conv=>whnf
         refine⟨trivial,?_⟩
        rotate_right
        focus
         conv=>whnf
         intro j
         conv=>whnf
         refine⟨?_,?_⟩;rotate_left
         focus
          conv=>whnf
          refine⟨by kernel_rfl,?_⟩
          conv=>whnf
          refine⟨e,?_⟩
          conv=>whnf
          intro F
          conv=>whnf
          refine⟨by kernel_rfl,?_⟩
          conv=>whnf
          refine⟨b,?_⟩
          conv=>whnf
          refine⟨trivial,?_⟩
         rotate_right
         focus
          conv=>whnf
          refine⟨by kernel_rfl,?_⟩
          conv=>whnf
          refine⟨e,?_⟩
          conv=>whnf
          intro F
          conv=>whnf
          refine⟨by kernel_rfl,?_⟩
          conv=>whnf
          refine⟨b,?_⟩
          conv=>whnf
          refine⟨trivial,?_⟩
       rotate_right
       focus
        conv=>whnf
        refine⟨?_,?_⟩;rotate_left
        focus
         conv=>whnf
         intro j
         conv=>whnf
         refine⟨by kernel_rfl,?_⟩
         conv=>whnf
         refine⟨e,?_⟩
         conv=>whnf
         intro F
         conv=>whnf
         refine⟨by kernel_rfl,?_⟩
         conv=>whnf
         refine⟨b,?_⟩
         conv=>whnf
         refine⟨trivial,?_⟩
        rotate_right
        focus
         conv=>whnf
         intro j
         conv=>whnf
         refine⟨?_,?_⟩;rotate_left
         focus
          conv=>whnf
          refine⟨by kernel_rfl,?_⟩
          conv=>whnf
          refine⟨e,?_⟩
          conv=>whnf
          intro F
          conv=>whnf
          refine⟨by kernel_rfl,?_⟩
          conv=>whnf
          refine⟨b,?_⟩
          conv=>whnf
          refine⟨trivial,?_⟩
         rotate_right
         focus
          conv=>whnf
          refine⟨by kernel_rfl,?_⟩
          conv=>whnf
          refine⟨e,?_⟩
          conv=>whnf
          intro F
          conv=>whnf
          refine⟨?_,?_⟩;rotate_left
          focus
           conv=>whnf
           refine⟨by kernel_rfl,?_⟩
           conv=>whnf
           refine⟨b,?_⟩
           conv=>whnf
           refine⟨trivial,?_⟩
          rotate_right
          focus
           conv=>whnf
           refine⟨by kernel_rfl,?_⟩
           conv=>whnf
           refine⟨b,?_⟩
           conv=>whnf
           refine⟨trivial,?_⟩
      rotate_right
      focus
       conv=>whnf
       intro j
       conv=>whnf
       refine⟨?_,?_⟩;rotate_left
       focus
        conv=>whnf
        refine⟨?_,?_⟩;rotate_left
        focus
         conv=>whnf
         refine⟨?_,?_⟩;rotate_left
         focus
          conv=>whnf
          refine⟨by kernel_rfl,?_⟩
          conv=>whnf
          refine⟨e,?_⟩
          conv=>whnf
          intro F
          conv=>whnf
          refine⟨by kernel_rfl,?_⟩
          conv=>whnf
          refine⟨b,?_⟩
          conv=>whnf
          refine⟨trivial,?_⟩
         rotate_right
         focus
          conv=>whnf
          refine⟨by kernel_rfl,?_⟩
          conv=>whnf
          refine⟨e,?_⟩
          conv=>whnf
          intro F
          conv=>whnf
          refine⟨by kernel_rfl,?_⟩
          conv=>whnf
          refine⟨b,?_⟩
          conv=>whnf
          refine⟨trivial,?_⟩
        rotate_right
        focus
         conv=>whnf
         refine⟨?_,?_⟩;rotate_left
         focus
          conv=>whnf
          refine⟨by kernel_rfl,?_⟩
          conv=>whnf
          refine⟨e,?_⟩
          conv=>whnf
          intro F
          conv=>whnf
          refine⟨by kernel_rfl,?_⟩
          conv=>whnf
          refine⟨b,?_⟩
          conv=>whnf
          refine⟨trivial,?_⟩
         rotate_right
         focus
          conv=>whnf
          refine⟨by kernel_rfl,?_⟩
          conv=>whnf
          refine⟨e,?_⟩
          conv=>whnf
          intro F
          conv=>whnf
          refine⟨?_,?_⟩;rotate_left
          focus
           conv=>whnf
           refine⟨by kernel_rfl,?_⟩
           conv=>whnf
           refine⟨b,?_⟩
           conv=>whnf
           refine⟨trivial,?_⟩
          rotate_right
          focus
           conv=>whnf
           refine⟨by kernel_rfl,?_⟩
           conv=>whnf
           refine⟨b,?_⟩
           conv=>whnf
           refine⟨trivial,?_⟩
       rotate_right
       focus
        conv=>whnf
        refine⟨by kernel_rfl,?_⟩
        conv=>whnf
        refine⟨e,?_⟩
        conv=>whnf
        intro F
        conv=>whnf
        refine⟨?_,?_⟩;rotate_left
        focus
         conv=>whnf
         refine⟨by kernel_rfl,?_⟩
         conv=>whnf
         refine⟨b,?_⟩
         conv=>whnf
         refine⟨trivial,?_⟩
        rotate_right
        focus
         conv=>whnf
         refine⟨?_,?_⟩;rotate_left
         focus
          conv=>whnf
          refine⟨by kernel_rfl,?_⟩
          conv=>whnf
          refine⟨b,?_⟩
          conv=>whnf
          refine⟨trivial,?_⟩
         rotate_right
         focus
          conv=>whnf
          refine⟨by kernel_rfl,?_⟩
          conv=>whnf
          refine⟨b,?_⟩
          conv=>whnf
          refine⟨trivial,?_⟩
      all_goals
       iterate 3 ((conv=>whnf);refine⟨by kernel_rfl,?_⟩)
       conv=>whnf
       refine Xu h (λL _ h=>?_)
       iterate 2 ((conv=>whnf);first|intro _|refine⟨by kernel_rfl,?_⟩)
       conv=>whnf
       refine ZrX h (λP h=>?_)
       conv=>whnf
       intro _
       conv=>whnf
       refine Xu h (λg _ h=>?_)
       iterate 3 ((conv=>whnf);intro _)
       conv=>whnf
       refine⟨trivial,?_⟩
       conv=>whnf
       cases h;exact J
end Go.Proofs.YtcjminfjgckdlaaGreatDoor
