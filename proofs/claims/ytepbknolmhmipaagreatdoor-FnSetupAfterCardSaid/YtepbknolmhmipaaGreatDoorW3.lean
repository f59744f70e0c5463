/-
  The functions keep their contracts, if what they call does. Printed by program.
-/
import Derived.Test.YtepbknolmhmipaaGreatDoorM
import Derived.KernelRfl
namespace Go.Proofs.YtepbknolmhmipaaGreatDoor
open Go Go.Sx
set_option maxRecDepth 100000
set_option maxHeartbeats 100000000
set_option linter.unusedVariables false
set_option linter.unusedSimpArgs false
structure Ws3:Prop where
 w164:Sq 258 ZwK->Sq 297 c159->Sq 300 c164
 w169:Sq 210 c168->Sq 111 ZwX
 w222:Sq 109 c146->Sq 168 c222
 w175:Sq 214 Zw0->Sq 114 c175
 w126:Sq 342 ZwA->Sq 343 ZwC->Sq 317 ZwD
 w137:Sq 258 ZwK->Sq 207 c96->Sq 204 ZwL
 w232:Sq 109 c146->Sq 163 Zxq->Sq 165 ZLi->Sq 170 ZLt->Sq 166 Zxr->Sq 169 c218->Sq 69 c232
 w155:Sq 207 c96->Sq 295 ZwQ->Sq 294 ZwS->Sq 109 c146->Sq 218 c154->Sq 274 ZwJ->Sq 204 ZwL->Sq 112 Zwq->Sq 240 ZwT
 w165:Sq 109 c146->Sq 296 ZwU->Sq 297 c159->Sq 281 c97->Sq 298 c162->Sq 299 ZwW->Sq 300 c164->Sq 112 Zwq->Sq 110 c148->Sq 241 ZvW
 w233:Sq 62 c167->Sq 69 c232->Sq 19 c233
 w149:Sq 108 c145->Sq 109 c146->Sq 110 c148->Sq 46 ZwP
 w181:Sq 215 Zw5->Sq 216 Zwo->Sq 116 Zw6
 w199:Sq 224 Zxd->Sq 225 c198->Sq 207 c96->Sq 216 Zwo->Sq 124 Zxe
 w201:Sq 46 ZwP->Sq 47 Zw1->Sq 48 Zxf->Sq 20 c201
 w242:Sq 46 ZwP->Sq 47 Zw1->Sq 48 Zxf->Sq 49 ZLx->Sq 11 ZLy
 w209:Sq 246 c208->Sq 149 Zxk
 w189:Sq 219 ZuE->Sq 284 Zw8->Sq 220 Zv0
 w108:Sq 275 c107->Sq 209 Zws
 w236:Sq 286 Zdk->Sq 226 c236
 w156:Sq 332 c156
 w180:Sq 207 c96->Sq 279 Zw3->Sq 280 Zw4->Sq 215 Zw5
 w97:Sq 207 c96->Sq 320 Zht->Sq 321 Zdl->Sq 281 c97
 w135:Sq 274 ZwJ
 w206:Sq 247 c206
 w176:Sq 109 c146->Sq 111 ZwX->Sq 112 Zwq->Sq 113 c173->Sq 114 c175->Sq 47 Zw1
 w235:Sq 229 c234->Sq 127 ZLk
 w215:Sq 308 Zxn
 w129:Sq 373 ZwE->Sq 343 ZwF
 w124:Sq 344 ZwB->Sq 373 c124
 w106:Sq 278 c105->Sq 319 Zwr
 w143:Sq 206 ZwN->Sq 277 c143
 w95:Sq 57 c1->Sq 58 c93->Sq 59 c2->Sq 60 c94->Sq 61 c91->Sq 15 c95
 w92:Sq 72 c83->Sq 73 c81->Sq 74 c86->Sq 23 c92
 w40:Sq 178 c38->Sq 146 c14->Sq 179 c39->Sq 78 c40
 w45:Sq 78 c40->Sq 192 c44->Sq 189 c21->Sq 93 c45
 w48:Sq 78 c40->Sq 90 c25->Sq 91 c42->Sq 92 c13->Sq 93 c45->Sq 94 c47->Sq 37 c48
 w67:Sq 301 c66->Sq 252 c67
 w79:Sq 64 c71->Sq 37 c48->Sq 66 c72->Sq 65 c52->Sq 67 c78->Sq 17 c79
 w252:Sq 37 c48->Sq 38 ZLE->Sq 8 ZLF
 w87:Sq 72 c83->Sq 73 c81->Sq 238 c85->Sq 74 c86->Sq 140 c87
 w16:Sq 239 c16
 w32:Sq 189 c21->Sq 366 c31->Sq 337 c32
 w9:Sq 59 c2->Sq 363 c7->Sq 329 c9
 w6:Sq 399 c5->Sq 386 c6
 w14:Sq 92 c13->Sq 146 c14
 w15:Sq 171 c15
 w58:Sq 239 c16->Sq 162 c58
 w75:Sq 146 c14->Sq 161 c75
 w70:Sq 92 c13->Sq 248 c63->Sq 249 c64->Sq 250 c20->Sq 251 c65->Sq 252 c67->Sq 253 c69->Sq 146 c14->Sq 179 c39->Sq 153 c70
 w43:Sq 92 c13->Sq 269 c43
 w44:Sq 269 c43->Sq 189 c21->Sq 192 c44
 w243:Sq 144 c11->Sq 97 ZLm
 w82:Sq 73 c81->Sq 173 c82
set_option maxHeartbeats 100000000 in
theorem ws3:Ws3:=by
 refine ⟨(λq0 q1=>Zf Zn (Zb q0 (Zb q1 Zi)) mixed {draws:=[(6,[],.u 0 7 (.alt 7 (.u 8 27 .done) .done))]} Tryz.func300 (hvc:=?_)),
 (λq0=>Zf Zn (Zb q0 Zi) mixed {loops:=[(0,[.reg 7 (.own (.ol 197 (.flat (ZmI)))),.reg 21 (.dat Iq)]),(2,[.reg 7 (.own (.ol 197 (.flat (ZmI)))),.reg 29 (.dat Iq)])]} Tryz.func111 (hvc:=?_)),
 (λq0=>Zf Zb7 (Zb q0 Zi) mixed {loops:=[(0,[.reg 13 (.dat Iq),.ent 4 (nat_lit 67) (Dp.pair (Dp.ol (2:Go.TypeId) (Dp.flat (Ty.int IntKind.i64))) (Dp.pair (Dp.ol (2:Go.TypeId) (Dp.flat (Ty.int IntKind.i64))) (Dp.pair (Dp.ol (2:Go.TypeId) (Dp.flat (Ty.int IntKind.i64))) (Dp.pair (Dp.ol (2:Go.TypeId) (Dp.flat (Ty.int IntKind.i64))) (Dp.flat Ty.unit)))))]),(2,[.reg 30 (.dat Iq),.ent 4 (nat_lit 67) (Dp.pair (Dp.ol (2:Go.TypeId) (Dp.flat (Ty.int IntKind.i64))) (Dp.pair (Dp.ol (2:Go.TypeId) (Dp.flat (Ty.int IntKind.i64))) (Dp.pair (Dp.ol (2:Go.TypeId) (Dp.flat (Ty.int IntKind.i64))) (Dp.pair (Dp.ol (2:Go.TypeId) (Dp.flat (Ty.int IntKind.i64))) (Dp.flat Ty.unit)))))])],draws:=[(9,[],.u 0 8 .done),(10,[],.u 0 4 (.u 5 6 (.alt 4 (.a [11,12,13] (.o [14,15] (.d 16))) (.alt 11 (.alt 4 (.a [12,13] (.o [14,15] (.d 16))) (.a [12,4,13] (.o [14,15] (.d 16)))) .done))))]} Tryz.func168 (hvc:=?_)),
 (λq0=>Zf Zn (Zb q0 Zi) mixed {loops:=[(0,[.reg 6 (.own (.ol 2 (.flat Iq))),.reg 19 (.dat Iq)])]} Tryz.func114 (hvc:=?_)),
 (λq1 q0=>Zf Zn (Zb q1 (Zb q0 Zi)) mixed {loops:=[(0,[.reg 8 (.dat Iq)])]} Tryz.func317 (hvc:=?_)),
 (λq0 q1=>Zf Zn (Zb q0 (Zb q1 Zi)) mixed {} Tryz.func204 (hvc:=?_)),
 (λq2 q4 q0 q1 q3 q5=>Zf Zn (Zb q2 (Zb q4 (Zb q0 (Zb q1 (Zb q3 (Zb q5 Zi)))))) mixed {draws:=[(4,[],.u 0 5 (.o [6,7] (.alt 5 (.u 8 7 (.d 15)) .done))),(11,[],.u 0 6 (.u 7 4 (.alt 6 (.op 11 (.d 12)) .done))),(13,[],.o [0,2,3] (.alt 1 (.o [4,5] (.a [6,7] .done)) (.a [6,1] (.o [4,5] (.d 7))))),(14,[],.o [0,2,4] (.u 6 5 (.alt 1 (.alt 3 (.a [5,11] (.op 12 (.d 13))) (.alt 5 (.alt 3 (.alt 11 (.op 12 (.d 13)) .done) (.a [11,3] (.op 12 (.d 13)))) .done)) (.alt 3 (.alt 1 (.a [5,11] (.op 12 (.d 13))) (.alt 5 (.alt 1 (.alt 11 (.op 12 (.d 13)) .done) (.a [11,1] (.op 12 (.d 13)))) .done)) (.alt 5 (.alt 1 (.alt 3 (.alt 11 (.op 12 (.d 13)) .done) (.a [11,3] (.op 12 (.d 13)))) (.alt 3 (.alt 1 (.alt 11 (.op 12 (.d 13)) .done) (.a [11,1] (.op 12 (.d 13)))) (.alt 11 (.alt 1 (.alt 3 (.op 12 (.d 13)) .done) (.a [3,1] (.op 12 (.d 13)))) .done))) .done))))),(15,[],.u 0 8 (.alt 8 (.op 9 (.d 10)) .done))]} Tryz.func69 (hvc:=?_)),
 (λq7 q5 q6 q2 q0 q1 q3 q4=>Zf Zn (Zb q7 (Zb q5 (Zb q6 (Zb q2 (Zb q0 (Zb q1 (Zb q3 (Zb q4 Zi)))))))) mixed {draws:=[(1,[],.o [0,1] (.alt 2 (.u 3 4 (.a [7,8] (.o [9,10] .done))) .done)),(3,[],.u 0 4 (.a [4,5] (.op 6 (.alt 7 (.op 8 .done) .done)))),(7,[],.u 0 7 (.alt 7 (.op 8 (.alt 9 (.o [10,11] .done) .done)) .done)),(9,[],.u 0 6 (.alt 6 (.u 7 11 (.alt 18 (.op 19 (.alt 20 (.o [21,22] .done) .done)) .done)) .done))]} Tryz.func240 (hvc:=?_)),
 (λq2 q5 q6 q7 q3 q1 q0 q4 q8=>Zf Zn (Zb q2 (Zb q5 (Zb q6 (Zb q7 (Zb q3 (Zb q1 (Zb q0 (Zb q4 (Zb q8 Zi))))))))) mixed {draws:=[(6,[],.u 0 27 (.alt 27 (.o [28,29] .done) .done)),(12,[],.u 0 19 .done),(13,[],.u 0 9 (.a [9,10] (.op 11 .done)))]} Tryz.func241 (hvc:=?_)),
 (λq1 q0=>Zf Zn (Zb q1 (Zb q0 Zi)) mixed {} Tryz.func19 (hvc:=?_)),
 (λq1 q0 q2=>Zf Zn (Zb q1 (Zb q0 (Zb q2 Zi))) mixed {loops:=[(0,[.reg 32 (.dat Iq),.ent 1 (nat_lit 2) (.flat Ztj.ety)]),(2,[.reg 50 (.dat Iq)])],draws:=[(13,[],.u 0 5 (.alt 5 (.op 6 .done) .done))]} Tryz.func46 (hvc:=?_)),
 (λq1 q0=>Zf Zn (Zb q1 (Zb q0 Zi)) mixed {loops:=[(0,[.reg 3 (.own (.ol 9 (.flat (.str)))),.reg 11 (.dat Iq)])]} Tryz.func116 (hvc:=?_)),
 (λq1 q0 q3 q2=>Zf Zn (Zb q1 (Zb q0 (Zb q3 (Zb q2 Zi)))) mixed {loops:=[(0,[.reg 3 (.own (.ol 9 (.flat (.str)))),.reg 8 (.dat Iq)])]} Tryz.func124 (hvc:=?_)),
 (λq1 q2 q0=>Zf Zn (Zb q1 (Zb q2 (Zb q0 Zi))) mixed {draws:=[(1,[],.op 0 (.alt 1 (.o [2,3,5] (.a [4,6] (.o [7,8] .done))) .done))]} Tryz.func20 (hvc:=?_)),
 (λq2 q3 q1 q0=>Zf Zn (Zb q2 (Zb q3 (Zb q1 (Zb q0 Zi)))) mixed {} Tryz.func11 (hvc:=?_)),
 (λq0=>Zf Zb7 (Zb q0 (ZKI (ZK3 Zb7 Zi mixed {draws:=[(0,[],.u 0 8 (.d 8))]} Tryz.func245 (by kernel_rfl) (by kernel_rfl)) Zi)) mixed {loops:=[(0,[.reg 18 (.dat Iq),.ent 0 (nat_lit 154) (.flat Xh),.cell 7 0 .bool]),(2,[.reg 36 (.dat Iq),.ent 1 (nat_lit 164) (.flat Yx),.cell 7 0 .bool]),(4,[.reg 54 (.dat Iq),.ent 2 (nat_lit 164) (.flat Yx),.cell 7 0 .bool]),(6,[.reg 72 (.dat Iq),.cell 7 0 (.bool),.ent 3 (nat_lit 158) (Dp.pair (Dp.flat (Ty.int IntKind.i64)) (Dp.pair (Dp.flat (Ty.int IntKind.i64)) (Dp.pair (Dp.ol (2:Go.TypeId) (Dp.flat (Ty.int IntKind.i64))) (Dp.pair (Dp.ol (2:Go.TypeId) (Dp.flat (Ty.int IntKind.i64))) (Dp.pair (Dp.ol (2:Go.TypeId) (Dp.flat (Ty.int IntKind.i64))) (Dp.flat Ty.unit))))))])]} Tryz.func149 (hvc:=?_)),
 (λq0 q1=>Zf Zn (Zb q0 (Zb q1 Zi)) mixed {} Tryz.func220 (hvc:=?_)),
 (λq0=>Zf Zn (Zb q0 Zi) mixed {} Tryz.func209 (hvc:=?_)),
 (λq0=>Zf Zn (Zb q0 Zi) mixed {} Tryz.func226 (hvc:=?_)),
 (Zf Zn Zi mixed {} Tryz.func332 (hvc:=?_)),
 (λq1 q0 q2=>Zf Zn (Zb q1 (Zb q0 (Zb q2 Zi))) mixed {} Tryz.func215 (hvc:=?_)),
 (λq2 q1 q0=>Zf Zn (Zb q2 (Zb q1 (Zb q0 Zi))) mixed {} Tryz.func281 (hvc:=?_)),
 (Zf Zn Zi mixed {} Tryz.func274 (hvc:=?_)),
 (Zf Zn Zi mixed {} Tryz.func247 (hvc:=?_)),
 (λq3 q1 q4 q2 q0=>Zf Zb7 (Zb q3 (Zb q1 (Zb q4 (Zb q2 (Zb q0 Zi))))) mixed {loops:=[(0,[.reg 4 (.dat Iq),.reg 25 (.dat Iq),.cello 1020 6 (.ol 197 (.flat (ZmI)))]),(2,[.reg 60 (.dat Iq),.ent 4 (nat_lit 2) (.flat Ztj.ety),.ent 5 (nat_lit 65) (Dp.ol (2:Go.TypeId) (Dp.flat (Ty.int IntKind.i64)))]),(4,[.reg 88 (.dat Iq),.cello 1020 7 (.ol 2 (.flat Iq)),.cello 1020 8 (.ol 65 (.ol 2 (.flat Iq))),.cello 1020 6 (.ol (nat_lit 197) (.flat ZmI)),.ent 5 (nat_lit 65) (Dp.ol (2:Go.TypeId) (Dp.flat (Ty.int IntKind.i64)))]),(6,[.reg 122 (.dat Iq),.cello 1020 6 (.ol (nat_lit 197) (.flat ZmI))]),(8,[.reg 127 (.dat Iq),.cello 1020 6 (.ol (nat_lit 197) (.flat ZmI))])],draws:=[(1,[],.o [0,1,2] (.alt 3 (.op 4 (.alt 5 (.op 6 .done) .done)) .done)),(6,[],.u 0 8 (.a [8,9] (.o [10,11] (.d 12)))),(16,[],.o [0,1] (.u 3 6 (.ld 2 (.a [9,10] (.op 11 (.d 12)))))),(21,[],.u 0 7 (.alt 7 (.o [8,9] (.a [10,11] (.o [12,13] (.d 14)))) .done)),(22,[],.u 0 7 (.a [7,8,9] (.o [10,11] (.d 12)))),(29,[],.u 0 18 (.a [18,19] (.o [20,21] (.d 22))))]} Tryz.func47 (hvc:=?_)),
 (λq0=>Zf Zn (Zb q0 Zi) mixed {draws:=[(1,[],.u 0 17 (.alt 17 (.op 18 .done) .done))]} Tryz.func127 (hvc:=?_)),
 (Zf Zn Zi mixed {} Tryz.func308 (hvc:=?_)),
 (λq0=>Zf Zn (Zb q0 Zi) mixed {} Tryz.func343 (hvc:=?_)),
 (λq0=>Zf Zn (Zb q0 Zi) mixed {loops:=[(0,[.reg 8 (.dat Iq)])]} Tryz.func373 (hvc:=?_)),
 (λq0=>Zf Zn (Zb q0 Zi) mixed {loops:=[(0,[.reg 8 (.dat Iq)])]} Tryz.func319 (hvc:=?_)),
 (λq0=>Zf Zn (Zb q0 Zi) mixed {loops:=[(0,[.reg 8 (.dat Iq)])]} Tryz.func277 (hvc:=?_)),
 (λq1 q2 q3 q0 q4=>Zf Zn (Zb q1 (Zb q2 (Zb q3 (Zb q0 (Zb q4 Zi))))) mixed {draws:=[(5,[],.o [0,2,3,4] (.ld 1 (.alt 5 (.alt 6 (.a [7,8,9] .done) (.alt 7 (.alt 6 (.a [8,9] .done) (.a [8,6,9] .done)) .done)) (.a [6,5,7,8,9] .done)))),(6,[],.o [0,2,3,4,6] (.ld 1 (.alt 5 (.alt 7 (.a [8,9,10] .done) (.alt 8 (.alt 7 (.a [9,10] .done) (.a [9,7,10] .done)) .done)) (.a [7,5,8,9,10] .done))))]} Tryz.func15 (hvc:=?_)),
 (λq0 q2 q1=>Zf Zn (Zb q0 (Zb q2 (Zb q1 Zi))) mixed {draws:=[(6,[],.u 0 5 (.alt 5 (.op 6 (.alt 7 (.op 8 .done) .done)) .done))]} Tryz.func23 (hvc:=?_)),
 (λq0 q1 q2=>Zf Zn (Zb q0 (Zb q1 (Zb q2 Zi))) mixed {loops:=[(0,[.reg 3 (.dat Iq)])],draws:=[(6,[],.u 0 8 (.alt 8 (.op 9 (.alt 10 (.op 11 .done) .done)) .done))]} Tryz.func78 (hvc:=?_)),
 (λq1 q0 q2=>Zf Zn (Zb q1 (Zb q0 (Zb q2 Zi))) mixed {} Tryz.func93 (hvc:=?_)),
 (λq5 q4 q2 q3 q1 q0=>Zf Zn (Zb q5 (Zb q4 (Zb q2 (Zb q3 (Zb q1 (Zb q0 Zi)))))) mixed {loops:=[(0,[.reg 5 (.dat Iq)]),(2,[.reg 6 (.dat Iq)])],draws:=[(6,[],.u 0 8 (.alt 8 (.o [9,10] .done) .done)),(11,[],.u 0 6 (.alt 6 (.op 7 .done) .done))]} Tryz.func37 (hvc:=?_)),
 (λq0=>Zf Zn (Zb q0 Zi) mixed {} Tryz.func252 (hvc:=?_)),
 (λq1 q4 q0 q2 q3=>Zf Zb7 (Zb q1 (Zb q4 (Zb q0 (Zb q2 (Zb q3 Zi))))) mixed {draws:=[(6,[],.o [0,1,3] (.alt 2 (.alt 4 (.o [5,6,7] (.a [8,9] (.op 10 .done))) (.a [8,4] (.o [5,6,7] (.alt 9 (.op 10 .done) .done)))) (.a [8,2,4] (.o [5,6,7] (.alt 9 (.op 10 .done) .done))))),(7,[],.u 0 5 (.op 6 (.a [5,7] (.o [8,9] .done))))]} Tryz.func17 (hvc:=?_)),
 (λq0 q1=>Zf Zn (Zb q0 (Zb q1 Zi)) mixed {} Tryz.func8 (hvc:=?_)),
 (λq0 q2 q3 q1=>Zf Zn (Zb q0 (Zb q2 (Zb q3 (Zb q1 Zi)))) mixed {draws:=[(5,[],.u 0 8 (.alt 8 (.u 9 5 (.alt 14 (.alt 15 (.a [16,17,18,19] (.op 20 .done)) (.a [16,15,17,18,19] (.op 20 .done))) (.alt 15 (.alt 14 (.a [16,17,18,19] (.op 20 .done)) (.a [16,14,17,18,19] (.op 20 .done))) (.alt 16 (.alt 14 (.a [15,17,18,19] (.op 20 .done)) (.a [15,14,17,18,19] (.op 20 .done))) .done)))) (.alt 14 (.alt 8 (.u 9 5 (.alt 15 (.a [16,17,18,19] (.op 20 .done)) (.a [16,15,17,18,19] (.op 20 .done)))) (.alt 15 (.alt 8 (.u 9 5 (.a [16,17,18,19] (.op 20 .done))) (.a [16,8] (.u 9 5 (.a [17,18,19] (.op 20 .done))))) (.alt 16 (.alt 8 (.u 9 5 (.a [15,17,18,19] (.op 20 .done))) (.a [15,8] (.u 9 5 (.a [17,18,19] (.op 20 .done))))) .done))) (.alt 15 (.alt 8 (.u 9 5 (.alt 14 (.a [16,17,18,19] (.op 20 .done)) (.a [16,14,17,18,19] (.op 20 .done)))) (.alt 14 (.alt 8 (.u 9 5 (.a [16,17,18,19] (.op 20 .done))) (.a [16,8] (.u 9 5 (.a [17,18,19] (.op 20 .done))))) (.alt 16 (.alt 8 (.u 9 5 (.a [14,17,18,19] (.op 20 .done))) (.a [14,8] (.u 9 5 (.a [17,18,19] (.op 20 .done))))) .done))) (.alt 16 (.alt 8 (.u 9 5 (.alt 14 (.a [15,17,18,19] (.op 20 .done)) (.a [15,14,17,18,19] (.op 20 .done)))) (.alt 14 (.alt 8 (.u 9 5 (.a [15,17,18,19] (.op 20 .done))) (.a [15,8] (.u 9 5 (.a [17,18,19] (.op 20 .done))))) (.alt 15 (.alt 8 (.u 9 5 (.a [14,17,18,19] (.op 20 .done))) (.a [14,8] (.u 9 5 (.a [17,18,19] (.op 20 .done))))) .done))) .done))))),(6,[],.u 0 4 (.o [5,6,7] (.a [4,8] (.op 9 (.alt 10 (.op 11 .done) .done)))))]} Tryz.func140 (hvc:=?_)),
 (Zf Zn Zi mixed {} Tryz.func239 (hvc:=?_)),
 (λq1 q0=>Zf Zn (Zb q1 (Zb q0 Zi)) mixed {} Tryz.func337 (hvc:=?_)),
 (λq1 q0=>Zf Zb7 (Zb q1 (Zb q0 Zi)) mixed {} Tryz.func329 (hvc:=?_)),
 (λq0=>Zf Zb7 (Zb q0 Zi) mixed {draws:=[(2,[],.o [1,2] (.ld 0 (.a [3,4] (.op 5 .done))))]} Tryz.func386 (hvc:=?_)),
 (λq0=>Zf Zn (Zb q0 Zi) mixed {loops:=[(0,[.reg 5 (.own (.ol 2 (.flat Iq))),.reg 7 (.dat Iq)])]} Tryz.func146 (hvc:=?_)),
 (Zf Zn Zi mixed {} Tryz.func171 (hvc:=?_)),
 (λq0=>Zf Zn (Zb q0 Zi) mixed {draws:=[(1,[],.o [0,1,3,4,6,7,9,10] (.a [2,5,8,11] (.op 12 (.d 13))))]} Tryz.func162 (hvc:=?_)),
 (λq0=>Zf Zb7 (Zb q0 Zi) mixed {loops:=[(0,[.reg 5 (.dat Iq),.ent 4 (nat_lit 67) (Dp.pair (Dp.ol (2:Go.TypeId) (Dp.flat (Ty.int IntKind.i64))) (Dp.pair (Dp.ol (2:Go.TypeId) (Dp.flat (Ty.int IntKind.i64))) (Dp.pair (Dp.ol (2:Go.TypeId) (Dp.flat (Ty.int IntKind.i64))) (Dp.pair (Dp.ol (2:Go.TypeId) (Dp.flat (Ty.int IntKind.i64))) (Dp.flat Ty.unit)))))]),(2,[.reg 6 (.own (.ol 2 (.flat Iq))),.reg 8 (.dat Iq)])]} Tryz.func161 (hvc:=?_)),
 (λq1 q3 q2 q6 q0 q4 q7 q5 q8=>Zf Zn (Zb q1 (Zb q3 (Zb q2 (Zb q6 (Zb q0 (Zb q4 (Zb q7 (Zb q5 (Zb q8 Zi))))))))) mixed {draws:=[(5,[],.u 0 28 (.alt 28 (.o [29,30] .done) .done)),(11,[],.u 0 19 .done),(12,[],.u 0 6 (.alt 6 (.op 7 (.alt 8 (.op 9 .done) .done)) .done))]} Tryz.func153 (hvc:=?_)),
 (λq0=>Zf Zn (Zb q0 Zi) mixed {} Tryz.func269 (hvc:=?_)),
 (λq0 q1=>Zf Zn (Zb q0 (Zb q1 Zi)) mixed {loops:=[(0,[.reg 7 (.dat Iq)])],draws:=[(4,[],.u 0 5 (.alt 5 (.op 6 (.alt 7 (.u 8 20 .done) .done)) .done))]} Tryz.func192 (hvc:=?_)),
 (λq0=>Zf Zn (Zb q0 Zi) mixed {loops:=[(0,[.reg 3 (.dat (.str)),.reg 4 (.dat Iq)])]} Tryz.func97 (hvc:=?_)),
 (λq0=>Zf Zn (Zb q0 Zi) mixed {loops:=[(0,[.reg 7 (.dat Iq),.cell 1003 0 (.sl (V6)),.cell 1003 1 (.sl (YJ)),.cell 1003 2 (.sl (.str)),.cell 1003 3 (.sl (ZcF)),.cell 1003 4 (.sl (Za9)),.cell 1004 0 (.sl (Xh)),.cell 1004 1 (.sl (Yx)),.cell 1004 2 (.sl (Yx)),.cell 1004 3 (.sl (Z4)),.cell 1004 4 (.sl (Y6))])],draws:=[(4,[],.u 0 6 (.alt 6 (.u 7 5 (.alt 12 (.alt 13 (.a [14,15,16,17] (.op 18 .done)) (.a [14,13,15,16,17] (.op 18 .done))) (.alt 13 (.alt 12 (.a [14,15,16,17] (.op 18 .done)) (.a [14,12,15,16,17] (.op 18 .done))) (.alt 14 (.alt 12 (.a [13,15,16,17] (.op 18 .done)) (.a [13,12,15,16,17] (.op 18 .done))) .done)))) (.alt 12 (.alt 6 (.u 7 5 (.alt 13 (.a [14,15,16,17] (.op 18 .done)) (.a [14,13,15,16,17] (.op 18 .done)))) (.alt 13 (.alt 6 (.u 7 5 (.a [14,15,16,17] (.op 18 .done))) (.a [14,6] (.u 7 5 (.a [15,16,17] (.op 18 .done))))) (.alt 14 (.alt 6 (.u 7 5 (.a [13,15,16,17] (.op 18 .done))) (.a [13,6] (.u 7 5 (.a [15,16,17] (.op 18 .done))))) .done))) (.alt 13 (.alt 6 (.u 7 5 (.alt 12 (.a [14,15,16,17] (.op 18 .done)) (.a [14,12,15,16,17] (.op 18 .done)))) (.alt 12 (.alt 6 (.u 7 5 (.a [14,15,16,17] (.op 18 .done))) (.a [14,6] (.u 7 5 (.a [15,16,17] (.op 18 .done))))) (.alt 14 (.alt 6 (.u 7 5 (.a [12,15,16,17] (.op 18 .done))) (.a [12,6] (.u 7 5 (.a [15,16,17] (.op 18 .done))))) .done))) (.alt 14 (.alt 6 (.u 7 5 (.alt 12 (.a [13,15,16,17] (.op 18 .done)) (.a [13,12,15,16,17] (.op 18 .done)))) (.alt 12 (.alt 6 (.u 7 5 (.a [13,15,16,17] (.op 18 .done))) (.a [13,6] (.u 7 5 (.a [15,16,17] (.op 18 .done))))) (.alt 13 (.alt 6 (.u 7 5 (.a [12,15,16,17] (.op 18 .done))) (.a [12,6] (.u 7 5 (.a [15,16,17] (.op 18 .done))))) .done))) .done)))))]} Tryz.func173 (hvc:=?_))⟩
 all_goals
  intro a;repeat rcases a with ⟨_,a⟩
  rintro K ⟨r,h,hK⟩;repeat'
    conv=>whnf
    first
    | with_reducible refine Zsx ?_
    | with_reducible refine Zf3 (by assumption) (by assumption) (by assumption) ?_
    | with_reducible refine Zjl (by assumption) ?_
    | with_reducible refine Zgc (by assumption) ?_
    | (with_reducible refine shD ?_);first | refine Zph h (λh=>?_) (λh=>?_) | refine Ztl h (λh=>?_) (λh=>?_)
    | (with_reducible refine Ztb ?_);first | refine Zuv ?_ | refine Zpi ?_
    | (with_reducible refine Zwe ?_);first | refine ZqR h (λh=>?_) (λh=>?_) | refine Ztk h (λh=>?_) (λh=>?_)
    | (with_reducible refine Zta ?_);(refine ⟨λhd=>?_,?_⟩)<;>try subst hd
    | (with_reducible refine Zwg ?_);first | with_reducible refine Zfy h (λx hb h=>?_) | refine Zgc (by assumption) ?_ | with_reducible refine pG h (λhp h=>?_) | with_reducible refine pA h (λx ha hb hx h=>?_) | with_reducible refine pB h (λx hb h=>?_) | refine Zfy h (λx hb h=>?_)
    | (with_reducible refine Zwd ?_);first | with_reducible refine vAt h (λx ha hb hx h=>?_) | refine Zf3 (by assumption) (by assumption) (by assumption) ?_ | with_reducible refine pG h (λhp h=>?_) | with_reducible refine pA h (λx ha hb hx h=>?_) | with_reducible refine pB h (λx hb h=>?_) | refine vAt h (λx ha hb hx h=>?_)
    | (with_reducible refine Zs9 ?_);first | with_reducible refine ZoE h (λx hb h=>?_) | refine Zjl (by assumption) ?_ | with_reducible refine pG h (λhp h=>?_) | with_reducible refine pA h (λx ha hb hx h=>?_) | with_reducible refine pB h (λx hb h=>?_) | refine ZoE h (λx hb h=>?_)
    | with_reducible refine Zwf ?_
    | (with_reducible refine Zp6 ?_);refine Zqd h hK ?_;clear h hK;intro I μ v r h hK;(repeat rcases v with ⟨_,v⟩);(try dsimp only at h)
    | with_reducible refine ⟨by assumption,?_⟩
    | with_reducible refine orL ?_
    | with_reducible refine .inr ?_
    | (with_reducible refine Ztc ?_);first | refine ⟨?_,True.intro⟩ | refine ⟨?_,?_⟩
    | refine ⟨by kernel_rfl,?_⟩
    | refine ⟨by decide,?_⟩
    | with_reducible refine Ztm h (λhp h=>?_)
    | intro fp
    | exact trivial
    | with_reducible exact Zsw h
    | (refine pS h (λe=>?_));subst e;(repeat (first | exact hK | exact ⟨⟨rfl,rfl⟩,hK.1 _ rfl⟩ | (refine pR hK (λe hK=>?_));subst e));done
    | refine Ztm h (λhp h=>?_)
    | refine ⟨by assumption,?_⟩
    | with_reducible refine pG h (λhp h=>?_) | with_reducible refine pA h (λx ha hb hx h=>?_) | with_reducible refine pB h (λx hb h=>?_)
    | refine pG h (λhp h=>?_)
    | fail
end Go.Proofs.YtepbknolmhmipaaGreatDoor
