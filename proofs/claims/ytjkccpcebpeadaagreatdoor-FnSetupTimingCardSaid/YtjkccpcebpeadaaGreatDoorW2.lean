/-
  The functions keep their contracts, if what they call does. Printed by program.
-/
import Derived.Test.YtjkccpcebpeadaaGreatDoorM
import Derived.KernelRfl
namespace Go.Proofs.YtjkccpcebpeadaaGreatDoor
open Go Go.Sx
set_option maxRecDepth 100000
set_option maxHeartbeats 100000000
set_option linter.unusedVariables false
set_option linter.unusedSimpArgs false
structure Ws2:Prop where
 w88:Sq 157 c85->Sq 37 c79->Sq 158 c86->Sq 159 c87->Sq 77 c88
 w56:Sq 311 c56
 w52:Sq 341 c51->Sq 328 c52
 w60:Sq 320 c60
 w55:Sq 179 c36->Sq 327 c49->Sq 328 c52->Sq 329 c54->Sq 312 c53->Sq 46 c29->Sq 309 c55
 w64:Sq 312 c53->Sq 155 c41->Sq 292 c63->Sq 273 c64
 w87:Sq 159 c87
 w67:Sq 205 c34->Sq 149 c67
 w71:Sq 151 c70->Sq 222 c71
 w70:Sq 223 c69->Sq 46 c29->Sq 151 c70
 w79:Sq 37 c79
 w82:Sq 73 c78->Sq 37 c79->Sq 74 c81->Sq 30 c82
 w96:Sq 204 c95->Sq 205 c34->Sq 134 c96
 w113:Sq 166 c30->Sq 167 ZDP->Sq 85 ZC5
 w78:Sq 148 c66->Sq 149 c67->Sq 150 c74->Sq 151 c70->Sq 152 c77->Sq 73 c78
 w44:Sq 349 c43->Sq 155 c41->Sq 339 c44
 w235:Sq 28 c117->Sq 29 c143->Sq 9 ZEG
 w166:Sq 177 ZEc
 w34:Sq 166 c30->Sq 265 c33->Sq 205 c34
 w46:Sq 339 c44->Sq 340 c45->Sq 338 c46
 w41:Sq 221 c40->Sq 155 c41
 w157:Sq 249 c157
 w127:Sq 162 c127
 w123:Sq 194 ZDT->Sq 81 ZDU
 w119:Sq 110 c119
 w107:Sq 46 c29->Sq 208 c107
 w114:Sq 47 ZC6
 w31:Sq 308 c31
 w238:Sq 169 ZEI
 w91:Sq 37 c79->Sq 75 c84->Sq 76 c37->Sq 77 c88->Sq 78 c90->Sq 31 c91
 w162:Sq 319 c162
 w160:Sq 249 c157->Sq 287 c160
 w140:Sq 144 ZD3
 w143:Sq 68 c139->Sq 69 c94->Sq 70 Zjx->Sq 67 ZC8->Sq 29 c143
 w106:Sq 137 c98->Sq 46 c29->Sq 91 ZzV->Sq 170 c105->Sq 138 ZDL
 w243:Sq 173 ZEM->Sq 91 ZzV->Sq 170 c105->Sq 88 ZEN
 w138:Sq 48 c138
 w108:Sq 36 c97->Sq 155 c41->Sq 208 c107->Sq 172 c42->Sq 141 ZDM
 w116:Sq 133 c92->Sq 134 c96->Sq 135 ZDI->Sq 138 ZDL->Sq 139 ZDO->Sq 142 ZDQ->Sq 65 c116
 w99:Sq 137 c98->Sq 136 c99
 w150:Sq 242 ZBY
 w163:Sq 319 c162->Sq 249 c157->Sq 289 ZEa
 w247:Sq 35 ZEQ->Sq 12 ZER
 w62:Sq 330 c61->Sq 310 c62
 w73:Sq 274 c72->Sq 221 c73
 w110:Sq 140 c109->Sq 207 ZDN
 w47:Sq 338 c46->Sq 348 c47
 w39:Sq 225 c38->Sq 274 c39
 w178:Sq 298 c171->Sq 198 c20->Sq 24 c21->Sq 299 ZEh->Sq 300 ZEi->Sq 261 ZEj
 w25:Sq 116 c22->Sq 117 c23->Sq 24 c21->Sq 63 c24->Sq 51 c25
 w185:Sq 24 c21->Sq 198 c20->Sq 118 ZDb
 w209:Sq 24 c21->Sq 130 ZDd
 w233:Sq 56 c213->Sq 57 ZBG->Sq 59 ZBZ->Sq 58 c232->Sq 25 c233
 w234:Sq 23 ZEs->Sq 24 c21->Sq 26 ZEv->Sq 27 c206->Sq 25 c233->Sq 8 c234
 w174:Sq 347 c173->Sq 335 ZEg
 w212:Sq 121 c208->Sq 57 ZBG->Sq 60 ZBH->Sq 59 ZBZ->Sq 201 ZEy->Sq 123 c212
 w219:Sq 255 ZBI
 w1:Sq 19 c1
 w4:Sq 21 c2->Sq 346 c4
 w16:Sq 260 c16
 w218:Sq 254 c218
 w10:Sq 257 c8->Sq 258 c9->Sq 190 c10
 w9:Sq 21 c2->Sq 297 c7->Sq 258 c9
 w6:Sq 334 c5->Sq 322 c6
 w8:Sq 21 c2->Sq 296 c3->Sq 297 c7->Sq 257 c8
 w20:Sq 198 c20
 w171:Sq 198 c20->Sq 24 c21->Sq 298 c171
 w12:Sq 21 c2->Sq 193 c11->Sq 191 c12
 w13:Sq 53 c13
 w18:Sq 190 c10->Sq 191 c12->Sq 115 c14->Sq 192 c17->Sq 107 c18
 w227:Sq 325 c222->Sq 326 c226->Sq 255 ZBI->Sq 305 c227
 w208:Sq 50 ZBF->Sq 57 ZBG->Sq 200 ZEx->Sq 121 c208
 w200:Sq 53 c13->Sq 60 ZBH
 w197:Sq 125 c193->Sq 124 ZEt->Sq 126 c196->Sq 115 c14->Sq 127 c194->Sq 57 ZBG
 w199:Sq 62 c198->Sq 59 ZBZ
 w194:Sq 127 c194
 w201:Sq 131 c201
 w207:Sq 24 c21->Sq 200 ZEx
 w230:Sq 203 ZEE
 w210:Sq 60 ZBH->Sq 24 c21->Sq 130 ZDd->Sq 120 ZDc->Sq 122 c210
 w19:Sq 21 c2->Sq 193 c11->Sq 108 c19
 w188:Sq 199 ZEo->Sq 24 c21->Sq 119 ZEp
 w191:Sq 53 c13->Sq 24 c21->Sq 120 ZDc->Sq 55 ZEr
set_option maxHeartbeats 100000000 in
theorem ws2:Ws2:=by
 refine ⟨(λq Q b c=>Hw Zy (Zb q (Zb Q (Zb b (Zb c Zl)))) {loops:=[(0,[.reg 27 (.dat Iq),.ent 2 (nat_lit 2) (.flat (Ty.int IntKind.i64))]),(2,[.reg 10 (.dat Iq),.ent 2 (nat_lit 2) (.flat (Ty.int IntKind.i64))])],draws:=[(7,[],.u 0 16 (.alt 16 (.o [17,18] (.d 19)) .done)),(12,[],.u 0 14 (.d 14))]} Tryz.func77 ?_),
 (Hw Zy Zl {} Tryz.func311 ?_),
 (λq=>Hw Zy (Zb q Zl) {} Tryz.func328 ?_),
 (Hw Zy Zl {} Tryz.func320 ?_),
 (λf c b q Q i=>Hw Zy (Zb f (Zb c (Zb b (Zb q (Zb Q (Zb i Zl)))))) {draws:=[(2,[],.u 0 12 (.alt 12 (.u 13 5 (.alt 18 (.u 19 11 (.alt 30 (.u 31 9 .done) .done)) .done)) .done)),(3,[],.o [0,1] (.alt 2 (.u 3 4 (.alt 7 (.u 8 6 (.alt 14 (.u 15 6 (.alt 21 (.o [22,23] .done) .done)) .done)) .done)) .done))]} Tryz.func309 ?_),
 (λq Q b=>Hw Zy (Zb q (Zb Q (Zb b Zl))) {loops:=[(0,[.reg 3 (.dat Iq),.reg 9 (.dat Iq)])],draws:=[(10,[],.u 0 7 (.alt 7 (.u 8 6 (.alt 14 (.o [15,16] .done) .done)) .done)),(12,[],.u 0 10 (.alt 10 (.u 11 4 (.op 16 (.a [15,17] (.o [18,19,20] .done)))) .done))]} Tryz.func273 ?_),
 (Hw Zy Zl {draws:=[(3,[],.u 0 18 .done)]} Tryz.func159 ?_),
 (λq=>Hw Zy (Zb q Zl) {loops:=[(0,[.reg 3 (.own (.ol 9 (.flat (.str)))),.reg 12 (.dat Iq)]),(2,[.reg 4 (.own (.ol 9 (.flat (.str)))),.reg 25 (.dat Iq)])]} Tryz.func149 ?_),
 (λq=>Hw Zy (Zb q Zl) {} Tryz.func222 ?_),
 (λq Q=>Hw Zy (Zb q (Zb Q Zl)) {} Tryz.func151 ?_),
 (Hw Zy Zl {loops:=[(0,[.reg 3 (.own (.ol 98 (.flat (Zk7)))),.reg 13 (.dat Iq)]),(2,[.reg 3 (.own (.ol 98 (.flat (Zk7)))),.reg 21 (.dat Iq)]),(4,[.reg 3 (.own (.ol 98 (.flat (Zk7)))),.reg 44 (.dat Iq)])]} Tryz.func37 ?_),
 (λQ q b=>Hw Zy (Zb Q (Zb q (Zb b Zl))) {loops:=[(0,[.reg 32 (.dat Iq),.ent 1 (nat_lit 2) (.flat Zza.ety)]),(2,[.reg 50 (.dat Iq)])],draws:=[(13,[],.u 0 5 (.alt 5 (.op 6 .done) .done))]} Tryz.func30 ?_),
 (λQ q=>Hw Zy (Zb Q (Zb q Zl)) {loops:=[(0,[.reg 3 (.own (.ol 9 (.flat (.str)))),.reg 11 (.dat Iq)])]} Tryz.func134 ?_),
 (λQ q=>Hw Zy (Zb Q (Zb q Zl)) {} Tryz.func85 ?_),
 (λf b Q c q=>Hw Zy (Zb f (Zb b (Zb Q (Zb c (Zb q Zl))))) {loops:=[(0,[.reg 25 (.dat Iq),.ent 2 (nat_lit 3) (.flat Zsa.ety)]),(2,[.reg 51 (.dat Iq),.ent 2 (nat_lit 3) (.flat Zsa.ety)])]} Tryz.func73 ?_),
 (λQ q=>Hw Zy (Zb Q (Zb q Zl)) {} Tryz.func339 ?_),
 (λQ q=>Hw Zy (Zb Q (Zb q Zl)) {} Tryz.func9 ?_),
 (Hw Zy Zl {} Tryz.func177 ?_),
 (λQ q=>Hw Zy (Zb Q (Zb q Zl)) {loops:=[(0,[.reg 7 (.dat Iq)])]} Tryz.func205 ?_),
 (λQ q=>Hw Zy (Zb Q (Zb q Zl)) {} Tryz.func338 ?_),
 (λq=>Hw Zy (Zb q Zl) {} Tryz.func155 ?_),
 (Hw Zy Zl {draws:=[(1,[],.u 0 8 .done)]} Tryz.func249 ?_),
 (Hw Zy Zl {draws:=[(1,[],.u 0 6 .done)]} Tryz.func162 ?_),
 (λq=>Hw Zy (Zb q Zl) {loops:=[(0,[.reg 5 (.own (.ol 2 (.flat Iq))),.reg 16 (.dat Iq)])]} Tryz.func81 ?_),
 (Hw Zy Zl {} Tryz.func110 ?_),
 (λq=>Hw Zy (Zb q Zl) {} Tryz.func208 ?_),
 (Hw Zy Zl {} Tryz.func47 ?_),
 (Hw Zy Zl {} Tryz.func308 ?_),
 (Hw Zy Zl {} Tryz.func169 ?_),
 (λc Q f b q=>Hw Zcl (Zb c (Zb Q (Zb f (Zb b (Zb q Zl))))) {loops:=[(0,[.reg 4 (.dat Iq),.reg 25 (.dat Iq),.cello 1020 6 (.ol 143 (.flat (Zaj)))]),(2,[.reg 60 (.dat Iq),.ent 4 (nat_lit 2) (.flat Zza.ety),.ent 5 (nat_lit 52) (Dp.ol (2:Go.TypeId) (Dp.flat (Ty.int IntKind.i64)))]),(4,[.reg 88 (.dat Iq),.cello 1020 7 (.ol 2 (.flat Iq)),.cello 1020 8 (.ol 52 (.ol 2 (.flat Iq))),.cello 1020 6 (.ol (nat_lit 143) (.flat Zaj)),.ent 5 (nat_lit 52) (Dp.ol (2:Go.TypeId) (Dp.flat (Ty.int IntKind.i64)))]),(6,[.reg 122 (.dat Iq),.cello 1020 6 (.ol (nat_lit 143) (.flat Zaj))]),(8,[.reg 127 (.dat Iq),.cello 1020 6 (.ol (nat_lit 143) (.flat Zaj))])],draws:=[(1,[],.o [0,1,2] (.alt 3 (.op 4 (.alt 5 (.op 6 .done) .done)) .done)),(6,[],.u 0 8 (.a [8,9] (.o [10,11] (.d 12)))),(16,[],.o [0,1] (.u 3 6 (.ld 2 (.a [9,10] (.op 11 (.d 12)))))),(21,[],.u 0 7 (.alt 7 (.o [8,9] (.a [10,11] (.o [12,13] (.d 14)))) .done)),(22,[],.u 0 7 (.a [7,8,9] (.o [10,11] (.d 12)))),(29,[],.u 0 18 (.a [18,19] (.o [20,21] (.d 22))))]} Tryz.func31 ?_),
 (Hw Zy Zl {loops:=[(0,[.reg 3 (.dat Iq),.reg 4 (.dat Iq)])]} Tryz.func319 ?_),
 (λq=>Hw Zy (Zb q Zl) {} Tryz.func287 ?_),
 (Hw Zy Zl {} Tryz.func144 ?_),
 (λq c b Q=>Hw Zy (Zb q (Zb c (Zb b (Zwv (Zzx Zcl (Zb Q Zl) mixed {draws:=[(0,[],.u 0 5 (.alt 5 (.o [6,7,8] (.a [9,10] (.op 11 .done))) (.a [9,5] (.o [6,7,8] (.alt 10 (.op 11 .done) .done)))))]} Tryz.func66 (by kernel_rfl) (by kernel_rfl)) Zl)))) {loops:=[(0,[.reg 14 (.dat Iq),.cello 1 0 (.ol 149 (.flat (Xv)))]),(2,[.reg 27 (.dat Iq),.cello 1 0 (.ol 149 (.flat (Xv)))])]} Tryz.func29 ?_),
 (λq b c Q=>Hw Zy (Zb q (Zb b (Zb c (Zb Q Zl)))) {loops:=[(0,[.reg 13 (.dat Iq)])],draws:=[(4,[],.o [0,1,2] (.alt 3 (.u 4 41 .done) .done))]} Tryz.func138 ?_),
 (λq b Q=>Hw Zy (Zb q (Zb b (Zb Q Zl))) {loops:=[(0,[.reg 9 (.dat Iq)])],draws:=[(4,[],.o [0,1,2] (.alt 3 (.u 4 4 (.alt 8 (.u 9 5 (.alt 14 (.u 15 17 .done) .done)) .done)) .done))]} Tryz.func88 ?_),
 (Hw Zy Zl {loops:=[(0,[.reg 23 (.dat Iq),.ent 0 (nat_lit 4) (.flat Zs7.ety)]),(2,[.reg 35 (.dat Iq),.ent 0 (nat_lit 4) (.flat Zs7.ety)])]} Tryz.func48 ?_),
 (λq b c Q=>Hw Zy (Zb q (Zb b (Zb c (Zb Q Zl)))) {loops:=[(0,[.reg 15 (.dat Iq)])]} Tryz.func141 ?_),
 (λb i Q c q f=>Hw Zy (Zb b (Zb i (Zb Q (Zb c (Zb q (Zb f Zl)))))) {} Tryz.func65 ?_),
 (λq=>Hw Zy (Zb q Zl) {} Tryz.func136 ?_),
 (Hw Zy Zl {draws:=[(1,[],.u 0 11 .done)]} Tryz.func242 ?_),
 (λQ q=>Hw Zy (Zb Q (Zb q Zl)) {} Tryz.func289 ?_),
 (λq=>Hw Zy (Zb q Zl) {loops:=[(0,[.reg 5 (.dat Iq)])],draws:=[(6,[],.u 0 11 .done)]} Tryz.func12 ?_),
 (λq=>Hw Zy (Zb q Zl) {} Tryz.func310 ?_),
 (λq=>Hw Zy (Zb q Zl) {} Tryz.func221 ?_),
 (λq=>Hw Zy (Zb q Zl) {loops:=[(0,[.reg 8 (.dat Iq)])]} Tryz.func207 ?_),
 (λq=>Hw Zy (Zb q Zl) {loops:=[(0,[.reg 8 (.dat Iq)])]} Tryz.func348 ?_),
 (λq=>Hw Zy (Zb q Zl) {loops:=[(0,[.reg 8 (.dat Iq)])]} Tryz.func274 ?_),
 (λQ b f c q=>Hw Zy (Zb Q (Zb b (Zb f (Zb c (Zb q Zl))))) {loops:=[(0,[.reg 5 (.dat Iq)]),(2,[.reg 7 (.dat Iq)]),(5,[.reg 9 (.dat Iq)])],draws:=[(13,[],.u 0 31 .done),(25,[],.u 0 26 .done)]} Tryz.func261 ?_),
 (λQ q b c=>Hw Zy (Zb Q (Zb q (Zb b (Zb c Zl)))) {loops:=[(0,[.reg 3 (.dat Iq)]),(2,[.reg 5 (.dat Iq)])],draws:=[(10,[],.u 0 8 .done)]} Tryz.func51 ?_),
 (λQ q=>Hw Zy (Zb Q (Zb q Zl)) {loops:=[(0,[.reg 4 (.dat Iq)])]} Tryz.func118 ?_),
 (λq=>Hw Zy (Zb q Zl) {} Tryz.func130 ?_),
 (λQ q b c=>Hw Zy (Zb Q (Zb q (Zb b (Zb c Zl)))) {draws:=[(5,[],.u 0 5 (.o [6,7] (.alt 5 (.alt 8 (.o [9,10,11] (.a [12,13] (.op 14 .done))) (.a [12,8] (.o [9,10,11] (.alt 13 (.op 14 .done) .done)))) (.a [12,5,8] (.o [9,10,11] (.alt 13 (.op 14 .done) .done))))))]} Tryz.func25 ?_),
 (λc f b Q q=>Hw Zy (Zb c (Zb f (Zb b (Zb Q (Zb q Zl))))) {draws:=[(5,[],.u 0 7 (.op 8 (.a [7,9,10] (.o [11,12] (.alt 13 (.op 14 .done) .done)))))]} Tryz.func8 ?_),
 (λq=>Hw Zy (Zb q Zl) {loops:=[(0,[.reg 5 (.dat Iq),.cell 1004 0 Iq,.cell 1004 1 Iq])],draws:=[(3,[],.u 0 9 (.a [9,10] .done)),(7,[],.u 0 9 (.d 9)),(8,[],.u 0 9 (.d 9))]} Tryz.func335 ?_),
 (λc q Q f b=>Hw Zy (Zb c (Zb q (Zb Q (Zb f (Zb b Zl))))) {} Tryz.func123 ?_),
 (Hw Zy Zl {} Tryz.func255 ?_),
 (Hw Zy Zl {loops:=[(0,[.reg 4 (.dat Iq),.cell 1007 2 Iq])],draws:=[(5,[],.u 0 10 (.alt 10 (.u 11 4 (.d 15)) .done))]} Tryz.func19 ?_),
 (λq=>Hw Zy (Zb q Zl) {loops:=[(0,[.reg 5 (.own (.ol 2 (.flat Iq))),.reg 6 (.dat Iq),.reg 7 (.dat Iq),.cell 0 0 (.sl (.int .u8)),.cell 0 1 Iq,.cell 0 2 Iq])]} Tryz.func346 ?_),
 (Hw Zy Zl {} Tryz.func260 ?_),
 (Hw Zy Zl {loops:=[(0,[.reg 8 (.dat Iq)])],draws:=[(10,[],.u 0 17 .done)]} Tryz.func254 ?_),
 (λQ q=>Hw Zcl (Zb Q (Zb q Zl)) {} Tryz.func190 ?_),
 (λQ q=>Hw Zcl (Zb Q (Zb q Zl)) {} Tryz.func258 ?_),
 (λq=>Hw Zcl (Zb q Zl) {draws:=[(2,[],.o [1,2] (.ld 0 (.a [3,4] (.op 5 .done))))]} Tryz.func322 ?_),
 (λb Q q=>Hw Zcl (Zb b (Zb Q (Zb q Zl))) {loops:=[(0,[.reg 9 (.own (.ol 303 (.flat (ZqP)))),.reg 10 (.dat Iq),.cell 1000 0 (.sl (.int .u8)),.cell 1000 1 Iq,.cell 1000 2 Iq]),(2,[.reg 12 (.own (.ol 220 (ZB5))),.reg 13 (.dat Iq),.cell 1000 0 (.sl (.int .u8)),.cell 1000 1 Iq,.cell 1000 2 Iq])],draws:=[(7,[],.u 0 5 (.op 6 (.alt 5 (.alt 7 (.o [8,9] (.a [10,11] (.op 12 .done))) .done) (.alt 7 (.op 8 (.alt 5 (.op 9 (.a [10,11] (.op 12 .done))) .done)) .done))))]} Tryz.func257 ?_),
 (Hw Zy Zl {loops:=[(0,[.reg 3 (.dat Iq)])]} Tryz.func198 ?_),
 (λq Q=>Hw Zy (Zb q (Zb Q Zl)) {loops:=[(0,[.reg 5 (.dat Iq),.reg 6 (.dat Iq)]),(2,[.reg 8 (.dat Iq)])],draws:=[(12,[],.u 0 9 .done)]} Tryz.func298 ?_),
 (λQ q=>Hw Zcl (Zb Q (Zb q Zl)) {loops:=[(0,[.reg 9 (.own (.ol 167 (Zky))),.reg 10 (.own (.ol 9 (.flat (.str)))),.reg 11 (.dat Iq),.cell 1000 0 (.sl (.int .u8)),.cell 1000 1 Iq,.cell 1000 2 Iq]),(2,[.reg 14 (.dat Iq),.cell 1000 0 (.sl (.int .u8)),.cell 1000 1 Iq,.cell 1000 2 Iq,.cello 1013 2 (.ol 2 (.flat Iq))]),(4,[.reg 16 (.dat Iq),.cell 1000 0 (.sl (.int .u8)),.cell 1000 1 Iq,.cell 1000 2 Iq,.ent 9 (nat_lit 167) (Dp.pair (Dp.flat Ty.str) (Dp.pair (Dp.flat (Ty.int IntKind.i64)) (Dp.pair (Dp.ol (2:Go.TypeId) (Dp.flat (Ty.int IntKind.i64))) (Dp.flat Ty.unit))))])],draws:=[(27,[],.u 0 4 (.u 5 4 (.alt 4 (.alt 9 (.o [10,11] (.d 12)) .done) (.alt 9 (.op 10 (.alt 4 (.op 11 (.d 12)) .done)) .done))))]} Tryz.func191 ?_),
 (Hw Zy Zl {loops:=[(0,[.reg 3 (.own (.ol 205 (.flat (ZgB)))),.reg 4 (.dat Iq)]),(2,[.reg 3 (.own (.ol 205 (.flat (ZgB)))),.reg 6 (.dat Iq)]),(4,[.reg 3 (.own (.ol 205 (.flat (ZgB)))),.reg 7 (.dat Iq)])],draws:=[(13,[],.u 0 16 (.a [16,17] (.op 18 .done)))]} Tryz.func53 ?_),
 (λb c Q q=>Hw Zcl (Zb b (Zb c (Zb Q (Zb q Zl)))) {loops:=[(0,[.reg 9 (.own (.ol 162 (ZuB))),.reg 10 (.dat Iq),.cell 0 0 (.sl (.int .u8)),.cell 0 1 Iq,.cell 0 2 Iq])]} Tryz.func107 ?_),
 (λq Q b=>Hw Zy (Zb q (Zb Q (Zb b Zl))) {draws:=[(1,[],.o [0,1] (.u 3 9 (.alt 2 (.o [12,13,14] .done) .done)))]} Tryz.func305 ?_),
 (λb Q q=>Hw Zy (Zb b (Zb Q (Zb q Zl))) {} Tryz.func121 ?_),
 (λq=>Hw Zy (Zb q Zl) {} Tryz.func60 ?_),
 (λb f q Q c=>Hw Zy (Zb b (Zb f (Zb q (Zb Q (Zb c Zl))))) {loops:=[(0,[.reg 3 (.own (.ol 143 (.flat (Zaj)))),.reg 5 (.dat Iq)]),(2,[.reg 3 (.own (.ol 143 (.flat (Zaj)))),.reg 7 (.dat Iq)]),(4,[.reg 3 (.own (.ol 143 (.flat (Zaj)))),.reg 8 (.dat Iq)]),(6,[.reg 3 (.own (.ol 143 (.flat (Zaj)))),.reg 11 (.dat Iq)])],draws:=[(6,[],.u 0 13 .done),(11,[],.u 0 12 (.u 13 7 (.op 21 (.a [12,20,22] (.op 23 .done)))))]} Tryz.func57 ?_),
 (λq=>Hw Zy (Zb q Zl) {loops:=[(0,[.reg 5 (.own (.ol 4 (.flat (.bool)))),.reg 6 (.dat Iq)])]} Tryz.func59 ?_),
 (Hw Zcl Zl {} Tryz.func127 ?_),
 (Hw Zy Zl {loops:=[(0,[.reg 12 (.dat (.bool)),.ent 0 (nat_lit 4) (.flat Zs7.ety)]),(2,[.reg 12 (.dat (.bool)),.reg 13 (.dat Iq),.ent 0 (nat_lit 4) (.flat Zs7.ety)])],draws:=[(9,[],.u 0 12 .done)]} Tryz.func131 ?_),
 (λq=>Hw Zy (Zb q Zl) {loops:=[(0,[.reg 5 (.dat Iq)])],draws:=[(4,[],.u 0 6 (.alt 6 (.u 7 17 .done) .done))]} Tryz.func200 ?_),
 (Hw Zy Zl {} Tryz.func203 ?_),
 (λq c b Q=>Hw Zy (Zb q (Zb c (Zb b (Zb Q Zl)))) {loops:=[(0,[.reg 6 (.dat Iq)])],draws:=[(5,[],.u 0 7 (.alt 7 (.u 8 25 (.alt 33 (.u 34 8 (.alt 42 (.o [43,44] .done) .done)) .done)) .done))]} Tryz.func122 ?_),
 (λQ q=>Hw Zy (Zb Q (Zb q Zl)) {loops:=[(0,[.reg 3 (.own (.ol 114 (.flat (ZbL)))),.reg 4 (.dat Iq),.cell 1000 0 (.sl (.int .u8)),.cell 1000 1 Iq,.cell 1000 2 Iq]),(3,[.reg 3 (.own (.ol 114 (.flat (ZbL))))])],draws:=[(11,[],.op 0 (.u 3 4 (.op 9 (.ld 1 (.op 2 (.ld 10 (.alt 7 (.o [8,11,12] (.d 13)) .done)))))))]} Tryz.func108 ?_),
 (λq Q=>Hw Zy (Zb q (Zb Q Zl)) {loops:=[(0,[.reg 7 (.dat Iq)])],draws:=[(4,[],.u 0 5 (.alt 5 (.op 6 (.alt 7 (.u 8 20 .done) .done)) .done))]} Tryz.func119 ?_),
 (λq b Q=>Hw Zy (Zb q (Zb b (Zb Q Zl))) {loops:=[(0,[.reg 10 (.dat Iq)])],draws:=[(6,[],.u 0 5 (.alt 5 (.u 6 23 (.alt 29 (.o [30,31] .done) .done)) .done))]} Tryz.func55 ?_)⟩
 all_goals
  intro a;repeat rcases a with⟨_,a⟩
  rintro K ⟨r,h,k⟩;repeat'
    conv=>whnf
    first
    |with_reducible refine Zz8 ?_
    |with_reducible refine Zlc (by assumption) (by assumption) (by assumption) ?_
    |with_reducible refine ZoA (by assumption) ?_
    |with_reducible refine Zlh (by assumption) ?_
    |(with_reducible refine shD ?_);first|refine Zsh h (λh=>?_) (λh=>?_)|refine ZBz h (λh=>?_) (λh=>?_)
    |(with_reducible refine ZAM ?_);first|refine ZCX ?_|refine ZxK ?_
    |(with_reducible refine ZE8 ?_);first|refine ZxI h (λh=>?_) (λh=>?_)|refine ZBy h (λh=>?_) (λh=>?_)
    |(with_reducible refine ZAL ?_);(refine⟨λL=>?_,?_⟩)<;>try subst L
    |(with_reducible refine ZFa ?_);first|with_reducible refine Ziu h (λx H h=>?_)|refine Zlh (by assumption) ?_|with_reducible refine pG h (λg h=>?_)|with_reducible refine pA h (λx n H l h=>?_)|with_reducible refine pB h (λx H h=>?_)|refine Ziu h (λx H h=>?_)
    |(with_reducible refine ZE7 ?_);first|with_reducible refine vAt h (λx n H l h=>?_)|refine Zlc (by assumption) (by assumption) (by assumption) ?_|with_reducible refine pG h (λg h=>?_)|with_reducible refine pA h (λx n H l h=>?_)|with_reducible refine pB h (λx H h=>?_)|refine vAt h (λx n H l h=>?_)
    |(with_reducible refine ZAK ?_);first|with_reducible refine Zvi h (λx H h=>?_)|refine ZoA (by assumption) ?_|with_reducible refine pG h (λg h=>?_)|with_reducible refine pA h (λx n H l h=>?_)|with_reducible refine pB h (λx H h=>?_)|refine Zvi h (λx H h=>?_)
    |with_reducible refine ZE9 ?_
    |(with_reducible refine Zxm ?_);refine ZxJ h k ?_;clear h k;intro I μ v r h k;(repeat rcases v with⟨_,v⟩);(try dsimp only at h)
    |with_reducible refine⟨by assumption,?_⟩
    |with_reducible refine orL ?_
    |with_reducible refine .inr ?_
    |(with_reducible refine ZAN ?_);first|refine⟨?_,True.intro⟩|refine⟨?_,?_⟩
    |refine⟨by kernel_rfl,?_⟩
    |refine⟨by decide,?_⟩
    |with_reducible refine ZBA h (λg h=>?_)
    |intro p
    |exact trivial
    |with_reducible exact Zz5 h
    |(refine pS h (λe=>?_));subst e;(repeat (first|exact k|exact⟨⟨rfl,rfl⟩,k.1 _ rfl⟩|(refine pR k (λe k=>?_));subst e));done
    |refine ZBA h (λg h=>?_)
    |refine⟨by assumption,?_⟩
    |with_reducible refine pG h (λg h=>?_)|with_reducible refine pA h (λx n H l h=>?_)|with_reducible refine pB h (λx H h=>?_)
    |refine pG h (λg h=>?_)
    |fail
theorem ZIp (q:Sq 164 ZDZ):Sq 83 ZD0:=by
 refine Hw Zy (Zb q Zl) {} Tryz.func83 ?_;rintro⟨s0,v0,⟨⟩⟩ K ⟨r,h,k⟩
 change YK s0 v0=some r at h
 unfold YK at h
 conv=>whnf
 refine Ziu h (λi c h=>?_)
 conv=>whnf
 cases h;exact k
theorem Zmg (R:Int->Option (List UInt8)) (c:Sq 193 (Zcn R)):Sq 193 (Zcn (Xb R)):=by
 refine Hw Zy (Zb c Zl) {draws:=[(5,[],.o [0,1,3,4,5] (.alt 2 (.a [6,7,8] (.o [9,10] .done)) (.alt 6 (.alt 2 (.a [7,8] (.o [9,10] .done)) (.alt 7 (.alt 2 (.alt 8 (.o [9,10] .done) .done) (.a [8,2] (.o [9,10] .done))) .done)) .done)))]} Tryz.func193 ?_;rintro⟨n0,⟨⟩⟩ K ⟨r,h,k⟩
 change Xb R n0=some r at h
 unfold Xb at h
 conv=>whnf
 refine Zsh h (λh=>?_) (λh=>?_)
 conv=>whnf
 refine Ziu h (λe b h=>?_)
 conv=>whnf
 refine ZBA h (λd h=>?_)
 conv=>whnf
 cases h;exact k
 conv=>whnf
 refine Zsh h (λh=>?_) (λh=>?_)
 conv=>whnf
 cases h;exact k
 focus
  conv=>whnf
  refine⟨by kernel_rfl,?_⟩
  conv=>whnf
  refine⟨by decide,?_⟩
  conv=>whnf
  refine⟨by decide,?_⟩
  conv=>whnf
  obtain⟨e,m,h⟩:=KH.1 h;obtain⟨H,h⟩:=guardE h;refine⟨?_,?_⟩;rotate_left
  focus
   conv=>whnf
   refine⟨?_,?_⟩;rotate_left
   focus
    conv=>whnf
    refine⟨?_,?_⟩;rotate_left
    focus
     conv=>whnf
     refine⟨_,m,?_⟩
     conv=>whnf
     refine⟨H,?_⟩
     conv=>whnf
     refine⟨trivial,?_⟩
    rotate_right
    focus
     conv=>whnf
     refine⟨_,m,?_⟩
     conv=>whnf
     refine⟨H,?_⟩
     conv=>whnf
     refine⟨trivial,?_⟩
   rotate_right
   focus
    conv=>whnf
    refine⟨_,m,?_⟩
    conv=>whnf
    refine⟨H,?_⟩
    conv=>whnf
    refine⟨trivial,?_⟩
  rotate_right
  focus
   conv=>whnf
   refine⟨_,m,?_⟩
   conv=>whnf
   refine⟨H,?_⟩
   conv=>whnf
   refine⟨trivial,?_⟩
  all_goals
   conv=>whnf
   cases h;exact k
theorem w11:Sq 193 c11:=by
 have X:∀n,Sq 193 (Zcn (Q9 n)):=by
  intro n;induction n with
  |zero =>
  refine Hw Zy Zl {draws:=[(5,[],.o [0,1,3,4,5] (.alt 2 (.a [6,7,8] (.o [9,10] .done)) (.alt 6 (.alt 2 (.a [7,8] (.o [9,10] .done)) (.alt 7 (.alt 2 (.alt 8 (.o [9,10] .done) .done) (.a [8,2] (.o [9,10] .done))) .done)) .done)))]} Tryz.func193 ?_;rintro⟨n0,⟨⟩⟩ K ⟨r,h,k⟩;cases h
  |succ n I=>exact Zmg _ I
 refine⟨(X 0).1,?_⟩;rintro w S vs ⟨n0,⟨⟩⟩ f K d H g i ⟨r,h,k⟩;obtain⟨n,F⟩:=Zn9 h;exact(X n).2 w S vs _ f K d H g i ⟨r,F,k⟩
theorem ZqT (R:(List Zf)->Int->Option YX) (c:Sq 63 (ZfU R)):Sq 63 (ZfU (Zch R)):=by
 refine Hw Zy (Zb c Zl) {} Tryz.func63 ?_;rintro⟨l,k0,⟨⟩⟩ K ⟨r,h,k⟩
 change Zch R l k0=some r at h
 unfold Zch at h
 conv=>whnf
 refine vAt h (λX a b x h=>?_)
 conv=>whnf
 refine Zsh h (λh=>?_) (λh=>?_)
 conv=>whnf
 cases h;exact k
 conv=>whnf
 refine Ziu h (λd H h=>?_)
 conv=>whnf
 refine Zsh h (λh=>?_) (λh=>?_)
 conv=>whnf
 refine⟨by decide,?_⟩
 conv=>whnf
 refine ZxI h (λh=>?_) (λh=>?_)
 conv=>whnf
 cases h;exact k
 conv=>whnf
 cases h;exact k
 conv=>whnf
 refine ZxI h (λh=>?_) (λh=>?_)
 conv=>whnf
 cases h;exact k
 conv=>whnf
 cases h;exact k
theorem w24:Sq 63 c24:=by
 have X:∀n,Sq 63 (ZfU (Zci n)):=by
  intro n;induction n with
  |zero =>
  refine Hw Zy Zl {} Tryz.func63 ?_;rintro⟨l,k0,⟨⟩⟩ K ⟨r,h,k⟩;cases h
  |succ n I=>exact ZqT _ I
 refine⟨(X 0).1,?_⟩;rintro w S vs ⟨l,k0,⟨⟩⟩ f K d H g i ⟨r,h,k⟩;obtain⟨n,F⟩:=Zn9 h;exact(X n).2 w S vs _ f K d H g i ⟨r,F,k⟩
end Go.Proofs.YtjkccpcebpeadaaGreatDoor
