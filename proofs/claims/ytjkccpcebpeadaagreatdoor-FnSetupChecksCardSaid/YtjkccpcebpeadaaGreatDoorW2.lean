/-
  The functions keep their contracts, if what they call does. Printed by program.
-/
import Derived.Test.YtjkccpcebpeadaaGreatDoorM
import Derived.KernelRfl
namespace Go.Proofs.YtjkccpcebpeadaaGreatDoor
open Go Go.Sx
set_option maxRecDepth 100000
set_option maxHeartbeats 100000000
set_option linter.unusedVariables false
set_option linter.unusedSimpArgs false
structure Ws2:Prop where
 w152:Sq 147 c152
 w83:Sq 156 c83
 w88:Sq 157 c85->Sq 37 c79->Sq 158 c86->Sq 159 c87->Sq 77 c88
 w186:Sq 292 c63->Sq 245 ZEn
 w63:Sq 310 c62->Sq 292 c63
 w87:Sq 159 c87
 w82:Sq 73 c78->Sq 37 c79->Sq 74 c81->Sq 30 c82
 w66:Sq 219 c65->Sq 205 c34->Sq 148 c66
 w117:Sq 30 c82->Sq 31 c91->Sq 65 c116->Sq 28 c117
 w80:Sq 46 c29->Sq 154 c80
 w35:Sq 46 c29->Sq 308 c31->Sq 205 c34->Sq 271 c35
 w105:Sq 91 ZzV->Sq 238 ZDK->Sq 170 c105
 w283:Sq 105 ZMH->Sq 106 ZMI->Sq 44 ZMJ
 w157:Sq 249 c157
 w180:Sq 104 ZEj->Sq 43 ZEl
 w127:Sq 162 c127
 w123:Sq 194 ZDT->Sq 81 ZDU
 w130:Sq 226 ZDX->Sq 81 c130
 w124:Sq 81 ZDU->Sq 112 c124
 w126:Sq 49 ZBX->Sq 79 ZDV
 w168:Sq 89 ZD4->Sq 90 c167->Sq 91 ZzV->Sq 34 c168
 w43:Sq 76 c37->Sq 46 c29->Sq 155 c41->Sq 172 c42->Sq 349 c43
 w95:Sq 46 c29->Sq 264 c93->Sq 69 c94->Sq 204 c95
 w30:Sq 46 c29->Sq 236 Zjy->Sq 237 Zgg->Sq 166 c30
 w278:Sq 168 ZME
 w68:Sq 220 c68
 w92:Sq 133 c92
 w69:Sq 223 c69
 w140:Sq 144 ZD3
 w106:Sq 137 c98->Sq 46 c29->Sq 91 ZzV->Sq 170 c105->Sq 138 ZDL
 w137:Sq 79 ZDV->Sq 80 ZDY->Sq 81 ZD2->Sq 84 Znq->Sq 32 ZC7
 w150:Sq 242 ZBY
 w165:Sq 241 ZD9->Sq 242 ZBY->Sq 243 c164->Sq 176 ZEb
 w156:Sq 293 ZD8->Sq 248 c156
 w29:Sq 46 c29
 w155:Sq 233 ZD7->Sq 321 c154->Sq 293 ZD8
 w85:Sq 157 c85
 w58:Sq 330 c57->Sq 310 c58
 w62:Sq 330 c61->Sq 310 c62
 w48:Sq 348 c47->Sq 337 c48
 w77:Sq 224 c76->Sq 152 c77
 w100:Sq 136 c99->Sq 206 ZDH
 w51:Sq 342 c50->Sq 341 c51
 w184:Sq 291 c183->Sq 290 ZBF
 w121:Sq 111 ZDS
 w207:Sq 113 ZEw->Sq 115 c14->Sq 114 c206->Sq 50 ZEx
 w232:Sq 24 c21->Sq 130 c232
 w196:Sq 350 ZEt->Sq 24 c21->Sq 347 c196
 w206:Sq 24 c21->Sq 114 c206
 w256:Sq 56 c236->Sq 57 ZDg->Sq 59 c222->Sq 58 ZMl->Sq 25 ZMm
 w21:Sq 24 c21
 w243:Sq 254 ZEL->Sq 255 ZEM->Sq 187 ZEN
 w200:Sq 300 ZBH
 w12:Sq 21 c2->Sq 193 c11->Sq 191 c12
 w204:Sq 198 c20->Sq 197 ZEv
 w18:Sq 190 c10->Sq 191 c12->Sq 115 c14->Sq 192 c17->Sq 107 c18
 w17:Sq 21 c2->Sq 259 c15->Sq 260 c16->Sq 192 c17
 w239:Sq 260 c16->Sq 53 c13->Sq 115 c14->Sq 336 ZEI->Sq 324 ZEJ
 w15:Sq 259 c15
 w249:Sq 326 ZMf
 w246:Sq 325 ZEP->Sq 255 ZEM->Sq 302 ZEQ
 w234:Sq 201 c234
 w254:Sq 202 ZMi->Sq 203 ZMj->Sq 129 ZMk
 w252:Sq 262 ZES->Sq 263 ZMh->Sq 202 ZMi
 w263:Sq 295 ZMq->Sq 252 ZMr
 w19:Sq 21 c2->Sq 193 c11->Sq 108 c19
 w23:Sq 24 c21->Sq 117 c23
 w261:Sq 51 c25->Sq 24 c21->Sq 250 ZMo->Sq 251 ZMa->Sq 63 c24->Sq 183 ZMb
 w264:Sq 251 ZMa->Sq 63 c24->Sq 252 ZMr->Sq 184 ZMc
 w272:Sq 125 ZDe->Sq 253 ZMy->Sq 186 ZMd
 w274:Sq 186 ZMd->Sq 187 ZEN->Sq 99 ZMA
 w210:Sq 53 c13->Sq 199 c210
 w228:Sq 64 c228
set_option maxHeartbeats 100000000 in
theorem ws2:Ws2:=by
 refine ⟨(HK Zy Zl {} Tryz.func147 ?_),
 (HK Zy Zl {} Tryz.func156 ?_),
 (λq Q b c=>HK Zy (Zb q (Zb Q (Zb b (Zb c Zl)))) {loops:=[(0,[.reg 27 (.dat Iq),.ent 2 (nat_lit 2) (.flat (Ty.int IntKind.i64))]),(2,[.reg 10 (.dat Iq),.ent 2 (nat_lit 2) (.flat (Ty.int IntKind.i64))])],draws:=[(7,[],.u 0 16 (.alt 16 (.o [17,18] (.d 19)) .done)),(12,[],.u 0 14 (.d 14))]} Tryz.func77 ?_),
 (λq=>HK Zy (Zb q Zl) {} Tryz.func245 ?_),
 (λq=>HK Zy (Zb q Zl) {} Tryz.func292 ?_),
 (HK Zy Zl {draws:=[(3,[],.u 0 18 .done)]} Tryz.func159 ?_),
 (λQ q b=>HK Zy (Zb Q (Zb q (Zb b Zl))) {loops:=[(0,[.reg 32 (.dat Iq),.ent 1 (nat_lit 2) (.flat Zza.ety)]),(2,[.reg 50 (.dat Iq)])],draws:=[(13,[],.u 0 5 (.alt 5 (.op 6 .done) .done))]} Tryz.func30 ?_),
 (λQ q=>HK Zy (Zb Q (Zb q Zl)) {loops:=[(0,[.reg 3 (.own (.ol 9 (.flat (.str)))),.reg 9 (.dat Iq)])]} Tryz.func148 ?_),
 (λQ b q=>HK Zy (Zb Q (Zb b (Zb q Zl))) {draws:=[(1,[],.op 0 (.alt 1 (.o [2,3,5] (.a [4,6] (.o [7,8] .done))) .done))]} Tryz.func28 ?_),
 (λq=>HK Zy (Zb q Zl) {loops:=[(0,[.reg 8 (.dat Iq)])]} Tryz.func154 ?_),
 (λb q Q=>HK Zy (Zb b (Zb q (Zb Q Zl))) {loops:=[(0,[.reg 3 (.own (.ol 9 (.flat (.str)))),.reg 8 (.dat Iq)])]} Tryz.func271 ?_),
 (λq Q=>HK Zy (Zb q (Zb Q Zl)) {} Tryz.func170 ?_),
 (λQ q=>HK Zy (Zb Q (Zb q Zl)) {} Tryz.func44 ?_),
 (HK Zy Zl {draws:=[(1,[],.u 0 8 .done)]} Tryz.func249 ?_),
 (λq=>HK Zy (Zb q Zl) {loops:=[(0,[.reg 3 (.dat Iq),.reg 17 (.dat Iq),.ent 1 (nat_lit 52) (Dp.ol (2:Go.TypeId) (Dp.flat (Ty.int IntKind.i64)))])],draws:=[(5,[],.u 0 18 .done)]} Tryz.func43 ?_),
 (HK Zy Zl {draws:=[(1,[],.u 0 6 .done)]} Tryz.func162 ?_),
 (λq=>HK Zy (Zb q Zl) {loops:=[(0,[.reg 5 (.own (.ol 2 (.flat Iq))),.reg 16 (.dat Iq)])]} Tryz.func81 ?_),
 (λq=>HK Zy (Zb q Zl) {loops:=[(0,[.reg 5 (.own (.ol 2 (.flat Iq))),.reg 16 (.dat Iq)])]} Tryz.func81 ?_),
 (λq=>HK Zy (Zb q Zl) {} Tryz.func112 ?_),
 (λq=>HK Zy (Zb q Zl) {} Tryz.func79 ?_),
 (λQ q b=>HK Zy (Zb Q (Zb q (Zb b Zl))) {loops:=[(0,[.reg 22 (.dat Iq),.cello 1008 0 (.ol 4 (.flat (.bool))),.cello 1008 1 (.ol 120 (.flat (Zag))),.cello 1008 2 (.ol 120 (.flat (Zag))),.ent 2 (nat_lit 4) (.flat Ty.bool),.ent 3 (nat_lit 120) (.flat Zag),.ent 4 (nat_lit 120) (.flat Zag)])],draws:=[(8,[],.u 0 4 (.o [5,6,8,9,10,12,14] (.l [4,7,11,13] (.alt 15 (.op 16 (.alt 17 (.op 18 (.d 19)) .done)) .done))))]} Tryz.func34 ?_),
 (λq c b Q=>HK Zy (Zb q (Zb c (Zb b (Zb Q Zl)))) {} Tryz.func349 ?_),
 (λQ q b=>HK Zy (Zb Q (Zb q (Zb b Zl))) {} Tryz.func204 ?_),
 (λb Q q=>HK Zy (Zb b (Zb Q (Zb q Zl))) {} Tryz.func166 ?_),
 (HK Zy Zl {} Tryz.func168 ?_),
 (HK Zy Zl {} Tryz.func220 ?_),
 (HK Zy Zl {} Tryz.func133 ?_),
 (HK Zy Zl {} Tryz.func223 ?_),
 (HK Zy Zl {} Tryz.func144 ?_),
 (λq b c Q=>HK Zy (Zb q (Zb b (Zb c (Zb Q Zl)))) {loops:=[(0,[.reg 13 (.dat Iq)])],draws:=[(4,[],.o [0,1,2] (.alt 3 (.u 4 41 .done) .done))]} Tryz.func138 ?_),
 (λQ b q c=>HK Zy (Zb Q (Zb b (Zb q (Zb c (Zwv (Zzx Zcl Zl mixed {loops:=[(0,[.reg 23 (.dat Iq),.ent 0 (nat_lit 4) (.flat Zs7.ety)]),(2,[.reg 35 (.dat Iq)])]} Tryz.func48 (by kernel_rfl) (by kernel_rfl)) Zl))))) {loops:=[(0,[.reg 4 (.own (.ol 2 (.flat Iq))),.ent 0 (nat_lit 4) (.flat Zs7.ety)])]} Tryz.func32 ?_),
 (HK Zy Zl {draws:=[(1,[],.u 0 11 .done)]} Tryz.func242 ?_),
 (λq Q b=>HK Zy (Zb q (Zb Q (Zb b Zl))) {draws:=[(1,[],.u 0 6 .done),(2,[],.u 0 4 (.u 5 4 (.u 11 4 (.u 16 4 (.alt 4 (.alt 9 (.op 10 (.alt 15 (.alt 20 (.o [21,22] (.a [23,24] .done)) (.a [23,20] (.o [21,22] (.d 24)))) (.a [23,15,20] (.o [21,22] (.d 24))))) (.a [23,9] (.op 10 (.a [15,20] (.o [21,22] (.d 24)))))) (.a [23,4,9] (.op 10 (.a [15,20] (.o [21,22] (.d 24)))))))))),(5,[],.u 0 6 (.alt 6 (.o [7,8,9] .done) .done)),(8,[],.op 0 (.alt 1 (.a [2,3] .done) (.a [2,1,3] .done)))]} Tryz.func176 ?_),
 (λq=>HK Zy (Zb q Zl) {draws:=[(1,[],.u 0 13 .done),(5,[],.u 0 18 (.u 19 10 (.alt 18 (.o [29,30] .done) .done)))]} Tryz.func248 ?_),
 (HK Zy Zl {} Tryz.func46 ?_),
 (λQ q=>HK Zy (Zb Q (Zb q Zl)) {loops:=[(0,[.reg 7 (.dat Iq),.reg 8 (.dat Iq)])]} Tryz.func293 ?_),
 (HK Zy Zl {} Tryz.func157 ?_),
 (λq=>HK Zy (Zb q Zl) {} Tryz.func310 ?_),
 (λq=>HK Zy (Zb q Zl) {} Tryz.func310 ?_),
 (λq=>HK Zy (Zb q Zl) {} Tryz.func337 ?_),
 (λq=>HK Zy (Zb q Zl) {} Tryz.func152 ?_),
 (λq=>HK Zy (Zb q Zl) {loops:=[(0,[.reg 8 (.dat Iq)])]} Tryz.func206 ?_),
 (λq=>HK Zy (Zb q Zl) {loops:=[(0,[.reg 8 (.dat Iq)])]} Tryz.func341 ?_),
 (λq=>HK Zy (Zb q Zl) {loops:=[(0,[.reg 8 (.dat Iq)])]} Tryz.func290 ?_),
 (HK Zy Zl {loops:=[(0,[.reg 8 (.dat Iq)])]} Tryz.func111 ?_),
 (λq Q b=>HK Zy (Zb q (Zb Q (Zb b Zl))) {loops:=[(0,[.reg 3 (.dat Iq)])],draws:=[(6,[],.u 0 8 (.alt 8 (.op 9 (.alt 10 (.op 11 .done) .done)) .done))]} Tryz.func50 ?_),
 (λq=>HK Zy (Zb q Zl) {} Tryz.func130 ?_),
 (λq Q=>HK Zy (Zb q (Zb Q Zl)) {loops:=[(0,[.reg 3 (.dat Iq)])]} Tryz.func347 ?_),
 (λq=>HK Zy (Zb q Zl) {loops:=[(0,[.reg 6 (.dat Iq)]),(2,[.reg 7 (.dat Iq)])]} Tryz.func114 ?_),
 (λQ q b c=>HK Zy (Zb Q (Zb q (Zb b (Zb c Zl)))) {draws:=[(5,[],.u 0 5 (.o [6,7] (.alt 5 (.alt 8 (.o [9,10,11] (.a [12,13] (.op 14 .done))) (.a [12,8] (.o [9,10,11] (.alt 13 (.op 14 .done) .done)))) (.a [12,5,8] (.o [9,10,11] (.alt 13 (.op 14 .done) .done))))))]} Tryz.func25 ?_),
 (HK Zy Zl {} Tryz.func24 ?_),
 (λq Q=>HK Zy (Zb q (Zb Q Zl)) {loops:=[(0,[.reg 16 (.dat Iq),.reg 17 (.dat Iq)]),(2,[.reg 16 (.dat Iq),.reg 18 (.dat Iq)])]} Tryz.func187 ?_),
 (HK Zy Zl {loops:=[(0,[.reg 4 (.dat Iq),.ent 1 (nat_lit 2) (.flat Zza.ety)])]} Tryz.func300 ?_),
 (λQ q=>HK Zcl (Zb Q (Zb q Zl)) {loops:=[(0,[.reg 9 (.own (.ol 167 (Zky))),.reg 10 (.own (.ol 9 (.flat (.str)))),.reg 11 (.dat Iq),.cell 1000 0 (.sl (.int .u8)),.cell 1000 1 Iq,.cell 1000 2 Iq]),(2,[.reg 14 (.dat Iq),.cell 1000 0 (.sl (.int .u8)),.cell 1000 1 Iq,.cell 1000 2 Iq,.cello 1013 2 (.ol 2 (.flat Iq))]),(4,[.reg 16 (.dat Iq),.cell 1000 0 (.sl (.int .u8)),.cell 1000 1 Iq,.cell 1000 2 Iq,.ent 9 (nat_lit 167) (Dp.pair (Dp.flat Ty.str) (Dp.pair (Dp.flat (Ty.int IntKind.i64)) (Dp.pair (Dp.ol (2:Go.TypeId) (Dp.flat (Ty.int IntKind.i64))) (Dp.flat Ty.unit))))])],draws:=[(27,[],.u 0 4 (.u 5 4 (.alt 4 (.alt 9 (.o [10,11] (.d 12)) .done) (.alt 9 (.op 10 (.alt 4 (.op 11 (.d 12)) .done)) .done))))]} Tryz.func191 ?_),
 (λq=>HK Zy (Zb q Zl) {loops:=[(0,[.reg 3 (.dat Iq)]),(2,[.reg 4 (.dat Iq)])],draws:=[(9,[],.u 0 9 .done)]} Tryz.func197 ?_),
 (λb c Q q=>HK Zcl (Zb b (Zb c (Zb Q (Zb q Zl)))) {loops:=[(0,[.reg 9 (.own (.ol 162 (ZuB))),.reg 10 (.dat Iq),.cell 0 0 (.sl (.int .u8)),.cell 0 1 Iq,.cell 0 2 Iq])]} Tryz.func107 ?_),
 (λQ q b=>HK Zy (Zb Q (Zb q (Zb b Zl))) {loops:=[(0,[.reg 6 (.dat Iq),.cell 1000 0 (.sl (.int .u8)),.cell 1000 1 Iq,.cell 1000 2 Iq,.cello 1005 0 (.ol (nat_lit 2) (.flat (Ty.int IntKind.i64))),.cello 1005 1 (.ol (nat_lit 2) (.flat (Ty.int IntKind.i64))),.cello 1005 2 (.ol (nat_lit 2) (.flat (Ty.int IntKind.i64))),.cello 1005 3 (.ol (nat_lit 2) (.flat (Ty.int IntKind.i64)))]),(2,[.reg 8 (.dat Iq),.cell 1000 0 (.sl (.int .u8)),.cell 1000 1 Iq,.cell 1000 2 Iq,.ent 10 (nat_lit 2) (.flat (Ty.int IntKind.i64))])],draws:=[(6,[],.o [0,1,3,4,8,11,15,18,22] (.l [9,16,23] (.a [2,5,6,7,10,12,13,14,17,19,20,21] (.op 24 (.d 25))))),(10,[],.op 0 (.u 2 5 (.ld 1 (.alt 7 (.op 8 (.d 9)) .done))))]} Tryz.func192 ?_),
 (λb q Q c=>HK Zy (Zb b (Zb q (Zb Q (Zb c Zl)))) {loops:=[(0,[.reg 9 (.dat Iq),.ent 2 (nat_lit 2) (.flat (Ty.int IntKind.i64))]),(2,[.reg 10 (.dat Iq),.ent 2 (nat_lit 2) (.flat (Ty.int IntKind.i64))])],draws:=[(8,[],.u 0 19 (.alt 19 (.o [20,21] (.d 22)) .done)),(12,[],.u 0 14 (.d 14))]} Tryz.func324 ?_),
 (HK Zy Zl {} Tryz.func259 ?_),
 (HK Zy Zl {loops:=[(0,[.reg 5 (.dat Iq),.reg 6 (.dat Iq)])]} Tryz.func326 ?_),
 (λq Q=>HK Zy (Zb q (Zb Q Zl)) {loops:=[(0,[.reg 8 (.own (.ol 2 (.flat Iq))),.reg 9 (.dat Iq)])]} Tryz.func302 ?_),
 (HK Zy Zl {loops:=[(0,[.reg 8 (.own (.ol 2 (.flat Iq))),.ent 1 (nat_lit 4) (.flat Zs7.ety)]),(2,[.reg 11 (.dat Iq),.ent 3 (nat_lit 4) (.flat Zs7.ety)]),(4,[.reg 12 (.dat Iq)])]} Tryz.func201 ?_),
 (λq Q=>HK Zy (Zb q (Zb Q Zl)) {loops:=[(0,[.reg 16 (.dat (.bool)),.reg 18 (.dat Iq),.cell 1017 0 Iq,.cell 1017 1 Iq,.cell 1017 2 Iq,.cell 1017 3 Iq,.cell 1017 4 Iq]),(2,[.reg 16 (.dat (.bool)),.reg 19 (.dat Iq),.cell 1017 0 Iq,.cell 1017 1 Iq,.cell 1017 2 Iq,.cell 1017 3 Iq,.cell 1017 4 Iq])],draws:=[(14,[],.u 0 9 (.alt 9 (.o [10,11,12] (.alt 13 (.a [14,15,16] .done) (.a [14,13,15,16] .done))) (.alt 13 (.alt 9 (.o [10,11,12] (.a [14,15,16] .done)) (.a [14,9] (.o [10,11,12] (.a [15,16] .done)))) (.alt 14 (.alt 9 (.o [10,11,12] (.a [13,15,16] .done)) (.a [13,9] (.o [10,11,12] (.a [15,16] .done)))) .done)))),(15,[],.u 0 21 (.a [21,22] .done)),(21,[],.o [0,1,2] (.d 3))]} Tryz.func129 ?_),
 (λq Q=>HK Zy (Zb q (Zb Q Zl)) {draws:=[(1,[],.u 0 5 (.u 6 5 (.alt 5 (.alt 11 (.op 12 (.a [13,14] .done)) (.a [13,11] (.op 12 (.d 14)))) (.a [13,5,11] (.op 12 (.d 14)))))),(2,[],.u 0 4 (.u 5 4 (.alt 4 (.alt 9 (.op 10 (.a [11,12] .done)) (.a [11,9] (.op 10 (.d 12)))) (.a [11,4,9] (.op 10 (.d 12)))))),(3,[],.u 0 7 (.alt 7 (.o [8,9] (.d 10)) .done)),(4,[],.u 0 7 (.alt 7 (.o [8,9] (.d 10)) .done)),(5,[],.u 0 6 (.alt 6 (.o [7,8] (.d 9)) .done)),(6,[],.u 0 6 (.alt 6 (.o [7,8] (.d 9)) .done)),(7,[],.op 0 (.alt 1 (.a [2,3] .done) (.a [2,1,3] .done)))]} Tryz.func202 ?_),
 (λq=>HK Zy (Zb q Zl) {draws:=[(1,[],.o [0,1,2,4,6,7,9,10,12,13] (.alt 3 (.o [5,8,11,14,15,16] .done) .done))]} Tryz.func252 ?_),
 (λQ q=>HK Zy (Zb Q (Zb q Zl)) {loops:=[(0,[.reg 3 (.own (.ol 114 (.flat (ZbL)))),.reg 4 (.dat Iq),.cell 1000 0 (.sl (.int .u8)),.cell 1000 1 Iq,.cell 1000 2 Iq]),(3,[.reg 3 (.own (.ol 114 (.flat (ZbL))))])],draws:=[(11,[],.op 0 (.u 3 4 (.op 9 (.ld 1 (.op 2 (.ld 10 (.alt 7 (.o [8,11,12] (.d 13)) .done)))))))]} Tryz.func108 ?_),
 (λq=>HK Zy (Zb q Zl) {} Tryz.func117 ?_),
 (λq c b Q f=>HK Zy (Zb q (Zb c (Zb b (Zb Q (Zb f Zl))))) {} Tryz.func183 ?_),
 (λq b Q=>HK Zcl (Zb q (Zb b (Zb Q Zl))) {loops:=[(0,[.reg 11 (.own (.ol 52 (.ol 2 (.flat Iq)))),.reg 15 (.dat Iq)])]} Tryz.func184 ?_),
 (λq Q=>HK Zy (Zb q (Zb Q Zl)) {draws:=[(1,[],.u 0 14 (.a [14,15] .done)),(2,[],.u 0 7 (.a [7,8] .done)),(3,[],.u 0 7 (.o [9,10,11] (.u 13 7 (.op 22 (.alt 7 (.o [8,12] (.alt 20 (.op 21 (.alt 23 (.o [24,25,26] .done) .done)) .done)) .done)))))]} Tryz.func186 ?_),
 (λq Q=>HK Zy (Zb q (Zb Q Zl)) {draws:=[(1,[],.u 0 20 (.a [20,21] .done)),(3,[],.u 0 19 (.alt 19 (.op 20 .done) .done)),(5,[],.u 0 22 .done),(6,[],.u 0 22 .done)]} Tryz.func99 ?_),
 (λq=>HK Zy (Zb q Zl) {} Tryz.func199 ?_),
 (HK Zy Zl {loops:=[(0,[.reg 7 (.dat Iq)])],draws:=[(2,[],.u 0 14 .done),(4,[],.u 0 14 .done),(6,[],.o [0,1,3,4] (.alt 2 (.a [5,6] (.op 7 .done)) (.a [5,2,6] (.op 7 .done))))]} Tryz.func64 ?_)⟩
 all_goals
  intro a;repeat rcases a with⟨_,a⟩
  rintro K ⟨r,h,k⟩;repeat'
    conv=>whnf
    first
    |with_reducible refine Zz8 ?_
    |with_reducible refine Zlc (by assumption) (by assumption) (by assumption) ?_
    |with_reducible refine ZoA (by assumption) ?_
    |with_reducible refine Zlh (by assumption) ?_
    |(with_reducible refine shD ?_);first|refine Zsh h (λh=>?_) (λh=>?_)|refine ZBz h (λh=>?_) (λh=>?_)
    |(with_reducible refine ZAM ?_);first|refine ZCX ?_|refine ZxK ?_
    |(with_reducible refine ZE8 ?_);first|refine ZxI h (λh=>?_) (λh=>?_)|refine ZBy h (λh=>?_) (λh=>?_)
    |(with_reducible refine ZAL ?_);(refine⟨λL=>?_,?_⟩)<;>try subst L
    |(with_reducible refine ZFa ?_);first|with_reducible refine Ziu h (λx H h=>?_)|refine Zlh (by assumption) ?_|with_reducible refine pG h (λg h=>?_)|with_reducible refine pA h (λx m H Z h=>?_)|with_reducible refine pB h (λx H h=>?_)|refine Ziu h (λx H h=>?_)
    |(with_reducible refine ZE7 ?_);first|with_reducible refine vAt h (λx m H Z h=>?_)|refine Zlc (by assumption) (by assumption) (by assumption) ?_|with_reducible refine pG h (λg h=>?_)|with_reducible refine pA h (λx m H Z h=>?_)|with_reducible refine pB h (λx H h=>?_)|refine vAt h (λx m H Z h=>?_)
    |(with_reducible refine ZAK ?_);first|with_reducible refine Zvi h (λx H h=>?_)|refine ZoA (by assumption) ?_|with_reducible refine pG h (λg h=>?_)|with_reducible refine pA h (λx m H Z h=>?_)|with_reducible refine pB h (λx H h=>?_)|refine Zvi h (λx H h=>?_)
    |with_reducible refine ZE9 ?_
    |(with_reducible refine Zxm ?_);refine ZxJ h k ?_;clear h k;intro I μ v r h k;(repeat rcases v with⟨_,v⟩);(try dsimp only at h)
    |with_reducible refine⟨by assumption,?_⟩
    |with_reducible refine orL ?_
    |with_reducible refine .inr ?_
    |(with_reducible refine ZAN ?_);first|refine⟨?_,True.intro⟩|refine⟨?_,?_⟩
    |refine⟨by kernel_rfl,?_⟩
    |refine⟨by decide,?_⟩
    |with_reducible refine ZBA h (λg h=>?_)
    |intro p
    |exact trivial
    |with_reducible exact Zz5 h
    |(refine pS h (λe=>?_));subst e;(repeat (first|exact k|exact⟨⟨rfl,rfl⟩,k.1 _ rfl⟩|(refine pR k (λe k=>?_));subst e));done
    |refine ZBA h (λg h=>?_)
    |refine⟨by assumption,?_⟩
    |with_reducible refine pG h (λg h=>?_)|with_reducible refine pA h (λx m H Z h=>?_)|with_reducible refine pB h (λx H h=>?_)
    |refine pG h (λg h=>?_)
    |fail
theorem Zo6 (R:(List Zf)->Int->Option ZcF) (c:Sq 69 (Ze6 R)):Sq 69 (Ze6 (Zbf R)):=by
 refine HK Zy (Zb c Zl) {} Tryz.func69 ?_;rintro⟨l,k0,⟨⟩⟩ K ⟨r,h,k⟩
 change Zbf R l k0=some r at h
 unfold Zbf at h
 conv=>whnf
 refine vAt h (λX a b x h=>?_)
 conv=>whnf
 refine Zsh h (λh=>?_) (λh=>?_)
 conv=>whnf
 cases h;exact k
 conv=>whnf
 refine Ziu h (λd H h=>?_)
 conv=>whnf
 refine Zsh h (λh=>?_) (λh=>?_)
 conv=>whnf
 refine⟨by decide,?_⟩
 conv=>whnf
 refine ZxI h (λh=>?_) (λh=>?_)
 conv=>whnf
 cases h;exact k
 conv=>whnf
 cases h;exact k
 conv=>whnf
 refine ZxI h (λh=>?_) (λh=>?_)
 conv=>whnf
 cases h;exact k
 conv=>whnf
 cases h;exact k
theorem w94:Sq 69 c94:=by
 have W:∀n,Sq 69 (Ze6 (ZaZ n)):=by
  intro n;induction n with
  |zero =>
  refine HK Zy Zl {} Tryz.func69 ?_;rintro⟨l,k0,⟨⟩⟩ K ⟨r,h,k⟩;cases h
  |succ n I=>exact Zo6 _ I
 refine⟨(W 0).1,?_⟩;rintro w S vs ⟨l,k0,⟨⟩⟩ f K d H g i ⟨r,h,k⟩;obtain⟨n,E⟩:=Zn9 h;exact(W n).2 w S vs _ f K d H g i ⟨r,E,k⟩
end Go.Proofs.YtjkccpcebpeadaaGreatDoor
