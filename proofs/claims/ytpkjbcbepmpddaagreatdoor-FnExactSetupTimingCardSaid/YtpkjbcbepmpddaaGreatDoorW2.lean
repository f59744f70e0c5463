/-
  The functions keep their contracts, if what they call does. Printed by program.
-/
import Derived.Test.YtpkjbcbepmpddaaGreatDoorM
import Derived.KernelRfl
namespace Go.Proofs.YtpkjbcbepmpddaaGreatDoor
open Go Go.Sx
set_option maxRecDepth 100000
set_option maxHeartbeats 100000000
set_option linter.unusedVariables false
set_option linter.unusedSimpArgs false
structure Ws2:Prop where
 w253:Sq 215 ZJb->Sq 256 ZJc
 w184:Sq 201 c183->Sq 146 ZIy
 w190:Sq 205 ZIB->Sq 149 ZIC
 w188:Sq 202 ZHm->Sq 145 ZFH->Sq 203 ZIz->Sq 204 ZIA->Sq 148 ZHn
 w156:Sq 340 c156
 w152:Sq 370 ZIj->Sq 355 c152
 w154:Sq 341 ZF0->Sq 90 Zsp->Sq 356 c154
 w153:Sq 337 c131->Sq 341 ZF0
 w167:Sq 242 ZDF->Sq 234 c167
 w174:Sq 289 c168->Sq 90 Zsp->Sq 290 c173->Sq 235 ZIs
 w196:Sq 241 ZIE->Sq 242 ZDF->Sq 192 c196
 w213:Sq 296 c130->Sq 299 c212->Sq 248 c213
 w266:Sq 221 ZJn
 w258:Sq 331 ZJf->Sq 310 ZFJ->Sq 309 ZHs
 w135:Sq 90 Zsp->Sq 337 c131->Sq 242 ZDF->Sq 322 ZIc
 w228:Sq 207 c228
 w221:Sq 164 ZIR->Sq 152 ZIS
 w232:Sq 152 ZIX->Sq 208 c232
 w230:Sq 249 ZIW
 w249:Sq 152 ZI9->Sq 219 ZJa
 w247:Sq 270 ZI8
 w143:Sq 147 ZFZ->Sq 90 Zsp->Sq 240 c141->Sq 247 ZHk->Sq 376 c143
 w130:Sq 90 Zsp->Sq 326 Zmh->Sq 327 Zhx->Sq 296 c130
 w202:Sq 90 Zsp->Sq 222 ZII
 w168:Sq 289 c168
 w169:Sq 292 ZIq
 w262:Sq 332 ZJj
 w206:Sq 195 c198->Sq 90 Zsp->Sq 169 c203->Sq 244 ZIK->Sq 196 c206
 w238:Sq 150 c227->Sq 151 c233->Sq 152 ZIZ->Sq 155 ZqP->Sq 94 ZI0
 w218:Sq 93 c218
 w216:Sq 191 ZID->Sq 192 c196->Sq 193 c201->Sq 196 c206->Sq 197 ZIN->Sq 200 ZIO->Sq 144 ZIP
 w250:Sq 272 ZF2
 w219:Sq 216 ZF1->Sq 163 ZFI
 w264:Sq 272 ZF2->Sq 308 ZHr->Sq 309 ZHs->Sq 313 ZJk->Sq 273 ZJl
 w265:Sq 271 ZJi->Sq 272 ZF2->Sq 273 ZJl->Sq 220 ZJm
 w270:Sq 37 ZJr
 w293:Sq 104 ZJM
 w300:Sq 107 ZJS->Sq 45 ZJT
 w289:Sq 100 ZJE->Sq 101 ZJF->Sq 102 ZJH->Sq 40 ZJI
 w285:Sq 171 ZJD->Sq 100 ZJE
 w275:Sq 274 ZJu->Sq 223 ZJv
 w277:Sq 173 ZDG->Sq 333 ZJw
 w291:Sq 103 ZJJ->Sq 41 ZJK
 w320:Sq 53 ZKb
 w307:Sq 113 ZBK->Sq 174 ZJV->Sq 175 ZJX->Sq 112 ZDH->Sq 108 ZJY
 w312:Sq 109 ZJ0->Sq 110 ZJ1->Sq 111 ZJ2->Sq 47 ZJ3
 w316:Sq 50 ZJ7
 w304:Sq 112 ZDH
 w308:Sq 108 ZJY->Sq 46 ZJZ
 w303:Sq 113 ZBK->Sq 174 ZJV
 w311:Sq 113 ZBK->Sq 111 ZJ2
 w319:Sq 49 ZJ6->Sq 50 ZJ7->Sq 51 ZJ8->Sq 52 ZJ9->Sq 14 ZKa
 w305:Sq 112 ZDH->Sq 225 ZJW
 w302:Sq 113 ZBK
 w8:Sq 114 c7->Sq 57 c8
 w19:Sq 62 c19
 w20:Sq 62 c19->Sq 20 c20
 w24:Sq 64 c24
 w15:Sq 58 c11->Sq 59 c12->Sq 60 c14->Sq 18 c15
 w11:Sq 115 c10->Sq 58 c11
 w2:Sq 117 c2
 w9:Sq 57 c8->Sq 17 c9
 w0:Sq 226 c0
 w1:Sq 226 c0->Sq 176 c1
 w26:Sq 20 c20->Sq 21 c21->Sq 22 c23->Sq 23 c25->Sq 5 c26
 w3:Sq 117 c2->Sq 315 c3
 w16:Sq 117 c2->Sq 61 c16
 w32:Sq 287 c31->Sq 232 c32
 w42:Sq 81 c38->Sq 82 c39->Sq 83 c41->Sq 30 c42
 w38:Sq 139 c37->Sq 81 c38
 w48:Sq 142 c48
 w39:Sq 82 c39
 w44:Sq 84 c43->Sq 31 c44
 w158:Sq 357 c157->Sq 339 ZIl
 w140:Sq 325 c139->Sq 290 ZIe
 w177:Sq 293 ZIt->Sq 237 ZIu
 w210:Sq 198 ZIM->Sq 245 c210
 w151:Sq 371 ZIi->Sq 370 ZIj
 w241:Sq 213 ZI2->Sq 212 ZI3
 w147:Sq 367 c146->Sq 375 ZIg
 w176:Sq 238 c175->Sq 293 ZIt
 w132:Sq 328 ZIa
 w254:Sq 364 ZJd
 w73:Sq 118 c69->Sq 120 c71->Sq 119 c72->Sq 65 c73
 w78:Sq 25 c57->Sq 181 c56->Sq 123 c78
 w69:Sq 178 c66->Sq 179 c67->Sq 180 c68->Sq 118 c69
 w102:Sq 25 c57->Sq 135 ZHf
 w60:Sq 365 c59->Sq 25 c57->Sq 352 c60
 w72:Sq 25 c57->Sq 119 c72
 w114:Sq 318 ZH1->Sq 284 ZFG->Sq 281 ZHi
 w68:Sq 181 c56->Sq 180 c68
 w67:Sq 25 c57->Sq 179 c67
 w117:Sq 319 c116->Sq 284 ZFG->Sq 282 c117
 w121:Sq 319 c116->Sq 320 ZH3->Sq 284 ZFG->Sq 286 ZH4
 w91:Sq 77 c91
 w90:Sq 130 c86->Sq 129 c88->Sq 131 c89->Sq 120 c71->Sq 132 c87->Sq 72 c90
 w92:Sq 77 c91->Sq 74 c92
 w94:Sq 136 c94
 w100:Sq 25 c57->Sq 183 ZHW
 w96:Sq 136 c94->Sq 137 c95->Sq 76 c96
 w95:Sq 137 c95
 w122:Sq 280 ZHh->Sq 281 ZHi->Sq 283 ZHj->Sq 286 ZH4->Sq 230 ZH5
 w124:Sq 186 c124
 w125:Sq 185 ZH6->Sq 186 c124->Sq 134 ZH7
 w103:Sq 75 c93->Sq 25 c57->Sq 135 ZHf->Sq 125 c83->Sq 127 ZHX
 w75:Sq 25 c57->Sq 122 c75
 w98:Sq 79 c98
set_option maxHeartbeats 100000000 in
theorem ws2:Ws2:=by
 refine ⟨(λq0=>Ze Zq (Zb q0 Zi) mixed {} Tryz.func256 (hvc:=?_)),
 (λq0=>Ze Zq (Zb q0 Zi) mixed {loops:=[(0,[.reg 7 (.own (.ol 154 (.flat (Za2)))),.reg 21 (.dat Iq)]),(2,[.reg 7 (.own (.ol 154 (.flat (Za2)))),.reg 29 (.dat Iq)])]} Tryz.func146 (hvc:=?_)),
 (λq0=>Ze Zq (Zb q0 Zi) mixed {loops:=[(0,[.reg 6 (.own (.ol 2 (.flat Iq))),.reg 19 (.dat Iq)])]} Tryz.func149 (hvc:=?_)),
 (λq0 q1 q2 q3=>Ze Zq (Zb q0 (Zb q1 (Zb q2 (Zb q3 Zi)))) mixed {loops:=[(0,[.reg 27 (.dat Iq),.ent 2 (nat_lit 2) (.flat (Ty.int IntKind.i64))]),(2,[.reg 10 (.dat Iq),.ent 2 (nat_lit 2) (.flat (Ty.int IntKind.i64))])],draws:=[(7,[],.u 0 16 (.alt 16 (.o [17,18] (.d 19)) .done)),(12,[],.u 0 14 (.d 14))]} Tryz.func148 (hvc:=?_)),
 (Ze Zq Zi mixed {} Tryz.func340 (hvc:=?_)),
 (λq0=>Ze Zq (Zb q0 Zi) mixed {} Tryz.func355 (hvc:=?_)),
 (λq0 q1=>Ze Zq (Zb q0 (Zb q1 Zi)) mixed {} Tryz.func356 (hvc:=?_)),
 (λq0=>Ze Zq (Zb q0 Zi) mixed {} Tryz.func341 (hvc:=?_)),
 (λq0=>Ze Zq (Zb q0 Zi) mixed {loops:=[(0,[.reg 3 (.own (.ol 9 (.flat (.str)))),.reg 12 (.dat Iq)]),(2,[.reg 4 (.own (.ol 9 (.flat (.str)))),.reg 25 (.dat Iq)])]} Tryz.func234 (hvc:=?_)),
 (λq1 q2 q0=>Ze Zq (Zb q1 (Zb q2 (Zb q0 Zi))) mixed {draws:=[(1,[],.u 0 4 (.alt 4 (.op 5 (.alt 6 (.u 7 18 (.alt 25 (.o [26,27,28] .done) .done)) .done)) .done))]} Tryz.func235 (hvc:=?_)),
 (λq1 q0=>Ze Zq (Zb q1 (Zb q0 Zi)) mixed {loops:=[(0,[.reg 3 (.own (.ol 9 (.flat (.str)))),.reg 11 (.dat Iq)])]} Tryz.func192 (hvc:=?_)),
 (λq1 q0=>Ze Zq (Zb q1 (Zb q0 Zi)) mixed {} Tryz.func248 (hvc:=?_)),
 (Ze Zq Zi mixed {} Tryz.func221 (hvc:=?_)),
 (λq0 q1=>Ze Zq (Zb q0 (Zb q1 Zi)) mixed {loops:=[(0,[.reg 13 (.dat Iq),.reg 34 (.dat Iq)]),(2,[.reg 13 (.dat Iq),.reg 40 (.dat Iq)])],draws:=[(10,[],.u 0 22 .done)]} Tryz.func309 (hvc:=?_)),
 (λq2 q0 q1=>Ze Zq (Zb q2 (Zb q0 (Zb q1 Zi))) mixed {loops:=[(0,[.reg 3 (.own (.ol 9 (.flat (.str)))),.reg 8 (.dat Iq)])]} Tryz.func322 (hvc:=?_)),
 (Ze Zq Zi mixed {draws:=[(1,[],.u 0 6 .done)]} Tryz.func207 (hvc:=?_)),
 (λq0=>Ze Zq (Zb q0 Zi) mixed {loops:=[(0,[.reg 5 (.own (.ol 2 (.flat Iq))),.reg 16 (.dat Iq)])]} Tryz.func152 (hvc:=?_)),
 (λq0=>Ze Zq (Zb q0 Zi) mixed {} Tryz.func208 (hvc:=?_)),
 (Ze Zq Zi mixed {} Tryz.func249 (hvc:=?_)),
 (λq0=>Ze Zq (Zb q0 Zi) mixed {} Tryz.func219 (hvc:=?_)),
 (Ze Zq Zi mixed {} Tryz.func270 (hvc:=?_)),
 (λq0 q3 q2 q1=>Ze Zq (Zb q0 (Zb q3 (Zb q2 (Zb q1 Zi)))) mixed {} Tryz.func376 (hvc:=?_)),
 (λq2 q1 q0=>Ze Zq (Zb q2 (Zb q1 (Zb q0 Zi))) mixed {} Tryz.func296 (hvc:=?_)),
 (λq0=>Ze Zq (Zb q0 Zi) mixed {} Tryz.func222 (hvc:=?_)),
 (Ze Zq Zi mixed {} Tryz.func289 (hvc:=?_)),
 (Ze Zq Zi mixed {} Tryz.func292 (hvc:=?_)),
 (Ze Zq Zi mixed {loops:=[(0,[.reg 3 (.dat Iq),.reg 4 (.dat Iq)])]} Tryz.func332 (hvc:=?_)),
 (λq0 q2 q3 q1=>Ze Zq (Zb q0 (Zb q2 (Zb q3 (Zb q1 Zi)))) mixed {loops:=[(0,[.reg 13 (.dat Iq)])],draws:=[(4,[],.o [0,1,2] (.alt 3 (.u 4 41 .done) .done))]} Tryz.func196 (hvc:=?_)),
 (λq1 q2 q0 q3=>Ze Zq (Zb q1 (Zb q2 (Zb q0 (Zb q3 (ZwD (ZAg Xz Zi mixed {loops:=[(0,[.reg 23 (.dat Iq),.ent 0 (nat_lit 4) (.flat Zw8.ety)]),(2,[.reg 35 (.dat Iq)])]} Tryz.func93 (by kernel_rfl) (by kernel_rfl)) Zi))))) mixed {loops:=[(0,[.reg 4 (.own (.ol 2 (.flat Iq))),.ent 0 (nat_lit 4) (.flat Zw8.ety)])]} Tryz.func94 (hvc:=?_)),
 (Ze Zq Zi mixed {loops:=[(0,[.reg 23 (.dat Iq),.ent 0 (nat_lit 4) (.flat Zw8.ety)]),(2,[.reg 35 (.dat Iq),.ent 0 (nat_lit 4) (.flat Zw8.ety)])]} Tryz.func93 (hvc:=?_)),
 (λq2 q5 q1 q3 q0 q4=>Ze Zq (Zb q2 (Zb q5 (Zb q1 (Zb q3 (Zb q0 (Zb q4 Zi)))))) mixed {} Tryz.func144 (hvc:=?_)),
 (Ze Zq Zi mixed {draws:=[(1,[],.u 0 11 .done)]} Tryz.func272 (hvc:=?_)),
 (λq0=>Ze Zq (Zb q0 Zi) mixed {} Tryz.func163 (hvc:=?_)),
 (λq1 q2 q0 q3=>Ze Zq (Zb q1 (Zb q2 (Zb q0 (Zb q3 Zi)))) mixed {draws:=[(4,[],.o [0,1,4,5,6] (.u 9 9 (.alt 2 (.o [3,7,8] (.alt 18 (.o [19,20] .done) .done)) .done))),(5,[],.u 0 13 (.alt 13 (.o [14,15] .done) .done))]} Tryz.func273 (hvc:=?_)),
 (λq0 q1 q2=>Ze Zq (Zb q0 (Zb q1 (Zb q2 Zi))) mixed {draws:=[(1,[],.u 0 6 .done),(2,[],.u 0 4 (.u 5 4 (.u 11 4 (.u 16 4 (.alt 4 (.alt 9 (.op 10 (.alt 15 (.alt 20 (.o [21,22] (.a [23,24] .done)) (.a [23,20] (.o [21,22] (.d 24)))) (.a [23,15,20] (.o [21,22] (.d 24))))) (.a [23,9] (.op 10 (.a [15,20] (.o [21,22] (.d 24)))))) (.a [23,4,9] (.op 10 (.a [15,20] (.o [21,22] (.d 24)))))))))),(5,[],.u 0 6 (.alt 6 (.o [7,8,9] .done) .done)),(8,[],.op 0 (.alt 1 (.a [2,3] .done) (.a [2,1,3] .done)))]} Tryz.func220 (hvc:=?_)),
 (Ze Zq Zi mixed {loops:=[(0,[.reg 5 (.dat Iq)])],draws:=[(6,[],.u 0 9 .done)]} Tryz.func37 (hvc:=?_)),
 (Ze Zq Zi mixed {} Tryz.func104 (hvc:=?_)),
 (λq0=>Ze Zq (Zb q0 Zi) mixed {loops:=[(0,[.reg 5 (.dat Iq)])],draws:=[(6,[],.u 0 8 (.alt 8 (.op 9 .done) .done))]} Tryz.func45 (hvc:=?_)),
 (λq0 q1 q2=>Ze Zq (Zb q0 (Zb q1 (Zb q2 Zi))) mixed {} Tryz.func40 (hvc:=?_)),
 (λq0=>Ze Zq (Zb q0 Zi) mixed {loops:=[(0,[.reg 5 (.dat Iq)])],draws:=[(6,[],.u 0 8 (.alt 8 (.op 9 .done) .done))]} Tryz.func100 (hvc:=?_)),
 (λq0=>Ze Zq (Zb q0 Zi) mixed {loops:=[(0,[.reg 5 (.dat Iq)])],draws:=[(6,[],.u 0 8 (.alt 8 (.op 9 .done) .done))]} Tryz.func223 (hvc:=?_)),
 (λq0=>Ze Zq (Zb q0 Zi) mixed {} Tryz.func333 (hvc:=?_)),
 (λq0=>Ze Zq (Zb q0 Zi) mixed {loops:=[(0,[.reg 5 (.dat Iq)])],draws:=[(6,[],.u 0 8 (.alt 8 (.op 9 .done) .done))]} Tryz.func41 (hvc:=?_)),
 (Ze Xz Zi mixed {loops:=[(0,[.reg 1 (.dat Iq),.reg 5 (.dat Iq),.ent 0 (nat_lit 4) (.flat Ty.bool)])]} Tryz.func53 (hvc:=?_)),
 (λq1 q2 q3 q0=>Ze Xz (Zb q1 (Zb q2 (Zb q3 (Zb q0 Zi)))) mixed {loops:=[(0,[.reg 1 (.dat Iq),.reg 5 (.dat Iq),.ent 0 (nat_lit 230) (Dp.pair (Dp.flat Ty.str) (Dp.pair (Dp.flat (Ty.int IntKind.i64)) (Dp.pair (Dp.ol (326:Go.TypeId) (Dp.flat Zge)) (Dp.pair (Dp.ol (233:Go.TypeId) ZBB) (Dp.pair (Dp.ol (2:Go.TypeId) (Dp.flat (Ty.int IntKind.i64))) (Dp.pair (Dp.flat (Ty.int IntKind.i64)) (Dp.pair (Dp.flat (Ty.int IntKind.i64)) (Dp.flat Ty.unit))))))))])]} Tryz.func108 (hvc:=?_)),
 (λq0 q1 q2=>Ze Xz (Zb q0 (Zb q1 (Zb q2 Zi))) mixed {} Tryz.func47 (hvc:=?_)),
 (Ze Xz Zi mixed {loops:=[(0,[.reg 1 (.dat Iq),.reg 5 (.dat Iq),.ent 0 (nat_lit 165) (.flat Z5)])]} Tryz.func50 (hvc:=?_)),
 (Ze Xz Zi mixed {loops:=[(0,[.reg 1 (.dat Iq),.reg 5 (.dat Iq),.ent 0 (nat_lit 2) (.flat (Ty.int IntKind.i64))])]} Tryz.func112 (hvc:=?_)),
 (λq0=>Ze Xz (Zb q0 Zi) mixed {} Tryz.func46 (hvc:=?_)),
 (λq0=>Ze Xz (Zb q0 Zi) mixed {loops:=[(0,[.reg 1 (.dat Iq),.reg 5 (.dat Iq),.ent 0 (nat_lit 326) (.flat Zge)])]} Tryz.func174 (hvc:=?_)),
 (λq0=>Ze Xz (Zb q0 Zi) mixed {loops:=[(0,[.reg 1 (.dat Iq),.reg 5 (.dat Iq),.ent 0 (nat_lit 221) (.flat Za3)])]} Tryz.func111 (hvc:=?_)),
 (λq3 q1 q0 q2=>Ze Xz (Zb q3 (Zb q1 (Zb q0 (Zb q2 Zi)))) mixed {} Tryz.func14 (hvc:=?_)),
 (λq0=>Ze Xz (Zb q0 Zi) mixed {loops:=[(0,[.reg 1 (.dat Iq),.reg 5 (.dat Iq),.ent 0 (nat_lit 373) (Dp.pair (Dp.ol (2:Go.TypeId) (Dp.flat (Ty.int IntKind.i64))) (Dp.pair (Dp.ol (2:Go.TypeId) (Dp.flat (Ty.int IntKind.i64))) (Dp.pair (Dp.ol (2:Go.TypeId) (Dp.flat (Ty.int IntKind.i64))) (Dp.flat Ty.unit))))])]} Tryz.func225 (hvc:=?_)),
 (Ze Zq Zi mixed {loops:=[(0,[.reg 0 (.dat Iq),.reg 3 (.dat (.str))])]} Tryz.func113 (hvc:=?_)),
 (λq0=>Ze Zq (Zb q0 Zi) mixed {loops:=[(0,[.reg 1 (.dat Iq),.reg 5 (.dat Iq)])]} Tryz.func57 (hvc:=?_)),
 (Ze Zq Zi mixed {} Tryz.func62 (hvc:=?_)),
 (λq0=>Ze Zq (Zb q0 Zi) mixed {loops:=[(0,[.reg 1 (.dat Iq),.reg 5 (.dat Iq)])]} Tryz.func20 (hvc:=?_)),
 (Ze Zq Zi mixed {} Tryz.func64 (hvc:=?_)),
 (λq0 q1 q2=>Ze Zq (Zb q0 (Zb q1 (Zb q2 Zi))) mixed {} Tryz.func18 (hvc:=?_)),
 (λq0=>Ze Zq (Zb q0 Zi) mixed {loops:=[(0,[.reg 1 (.dat Iq),.reg 5 (.dat Iq)])]} Tryz.func58 (hvc:=?_)),
 (Ze Zq Zi mixed {} Tryz.func117 (hvc:=?_)),
 (λq0=>Ze Zq (Zb q0 Zi) mixed {} Tryz.func17 (hvc:=?_)),
 (Ze Zq Zi mixed {} Tryz.func226 (hvc:=?_)),
 (λq0=>Ze Zq (Zb q0 Zi) mixed {loops:=[(0,[.reg 1 (.dat Iq),.reg 5 (.dat Iq)])]} Tryz.func176 (hvc:=?_)),
 (λq3 q1 q0 q2=>Ze Zq (Zb q3 (Zb q1 (Zb q0 (Zb q2 Zi)))) mixed {} Tryz.func5 (hvc:=?_)),
 (λq0=>Ze Zq (Zb q0 Zi) mixed {} Tryz.func315 (hvc:=?_)),
 (λq0=>Ze Zq (Zb q0 Zi) mixed {} Tryz.func61 (hvc:=?_)),
 (λq0=>Ze Xz (Zb q0 Zi) mixed {} Tryz.func232 (hvc:=?_)),
 (λq0 q1 q2=>Ze Xz (Zb q0 (Zb q1 (Zb q2 Zi))) mixed {} Tryz.func30 (hvc:=?_)),
 (λq0=>Ze Xz (Zb q0 Zi) mixed {loops:=[(0,[.reg 4 (.dat Iq),.ent 0 (nat_lit 218) ZeH])]} Tryz.func81 (hvc:=?_)),
 (Ze Zq Zi mixed {} Tryz.func142 (hvc:=?_)),
 (Ze Zq Zi mixed {loops:=[(0,[.reg 4 (.dat Iq),.ent 0 (nat_lit 9) (.flat ZHK.ety)])]} Tryz.func82 (hvc:=?_)),
 (λq0=>Ze Xz (Zb q0 Zi) mixed {loops:=[(0,[.reg 4 (.dat Iq),.ent 0 (nat_lit 170) ZtZ])]} Tryz.func31 (hvc:=?_)),
 (λq0=>Ze Zq (Zb q0 Zi) mixed {} Tryz.func339 (hvc:=?_)),
 (λq0=>Ze Zq (Zb q0 Zi) mixed {} Tryz.func290 (hvc:=?_)),
 (λq0=>Ze Zq (Zb q0 Zi) mixed {} Tryz.func237 (hvc:=?_)),
 (λq0=>Ze Zq (Zb q0 Zi) mixed {loops:=[(0,[.reg 8 (.dat Iq)])]} Tryz.func245 (hvc:=?_)),
 (λq0=>Ze Zq (Zb q0 Zi) mixed {loops:=[(0,[.reg 8 (.dat Iq)])]} Tryz.func370 (hvc:=?_)),
 (λq0=>Ze Zq (Zb q0 Zi) mixed {loops:=[(0,[.reg 8 (.dat Iq)])]} Tryz.func212 (hvc:=?_)),
 (λq0=>Ze Zq (Zb q0 Zi) mixed {loops:=[(0,[.reg 8 (.dat Iq)])]} Tryz.func375 (hvc:=?_)),
 (λq0=>Ze Zq (Zb q0 Zi) mixed {loops:=[(0,[.reg 8 (.dat Iq)])]} Tryz.func293 (hvc:=?_)),
 (Ze Zq Zi mixed {loops:=[(0,[.reg 8 (.dat Iq)])]} Tryz.func328 (hvc:=?_)),
 (Ze Zq Zi mixed {} Tryz.func364 (hvc:=?_)),
 (λq0 q1 q2=>Ze Zq (Zb q0 (Zb q1 (Zb q2 Zi))) mixed {loops:=[(0,[.reg 3 (.dat Iq)])],draws:=[(6,[],.u 0 8 (.alt 8 (.op 9 (.alt 10 (.op 11 .done) .done)) .done))]} Tryz.func65 (hvc:=?_)),
 (λq1 q0=>Ze Zq (Zb q1 (Zb q0 Zi)) mixed {loops:=[(0,[.reg 4 (.dat Iq)])]} Tryz.func123 (hvc:=?_)),
 (λq0 q1 q2=>Ze Zq (Zb q0 (Zb q1 (Zb q2 Zi))) mixed {loops:=[(0,[.reg 5 (.own (.ol 9 (.flat (.str)))),.reg 6 (.dat Iq)]),(2,[.reg 7 (.own (.ol 9 (.flat (.str)))),.reg 8 (.dat Iq)]),(4,[.reg 10 (.dat Iq),.ent 6 (nat_lit 2) (.flat ZBD.ety)]),(6,[.reg 12 (.dat Iq),.ent 6 (nat_lit 2) (.flat ZBD.ety)]),(8,[.reg 13 (.dat Iq)])]} Tryz.func118 (hvc:=?_)),
 (λq0=>Ze Zq (Zb q0 Zi) mixed {} Tryz.func135 (hvc:=?_)),
 (λq0 q1=>Ze Zq (Zb q0 (Zb q1 Zi)) mixed {loops:=[(0,[.reg 3 (.dat Iq)])]} Tryz.func352 (hvc:=?_)),
 (λq0=>Ze Zq (Zb q0 Zi) mixed {loops:=[(0,[.reg 6 (.dat Iq)]),(2,[.reg 7 (.dat Iq)])]} Tryz.func119 (hvc:=?_)),
 (λq0 q1=>Ze Zq (Zb q0 (Zb q1 Zi)) mixed {loops:=[(0,[.reg 16 (.dat Iq),.reg 17 (.dat Iq)]),(2,[.reg 16 (.dat Iq),.reg 18 (.dat Iq)])]} Tryz.func281 (hvc:=?_)),
 (λq0=>Ze Zq (Zb q0 Zi) mixed {loops:=[(0,[.reg 3 (.dat Iq)]),(2,[.reg 4 (.dat Iq)])],draws:=[(9,[],.u 0 9 .done)]} Tryz.func180 (hvc:=?_)),
 (λq0=>Ze Zq (Zb q0 Zi) mixed {loops:=[(0,[.reg 6 (.dat Iq)]),(2,[.reg 8 (.dat Iq)]),(4,[.reg 9 (.dat Iq)])],draws:=[(6,[],.u 0 6 (.alt 6 (.u 7 15 .done) .done))]} Tryz.func179 (hvc:=?_)),
 (λq0 q1=>Ze Zq (Zb q0 (Zb q1 Zi)) mixed {loops:=[(0,[.reg 8 (.own (.ol 2 (.flat Iq))),.reg 9 (.dat Iq)])]} Tryz.func282 (hvc:=?_)),
 (λq0 q1 q2=>Ze Zq (Zb q0 (Zb q1 (Zb q2 Zi))) mixed {draws:=[(1,[],.o [0,1] (.u 3 9 (.alt 2 (.o [12,13,14] .done) .done)))]} Tryz.func286 (hvc:=?_)),
 (Ze Zq Zi mixed {loops:=[(0,[.reg 5 (.dat Iq)])]} Tryz.func77 (hvc:=?_)),
 (λq2 q4 q0 q1 q3=>Ze Zq (Zb q2 (Zb q4 (Zb q0 (Zb q1 (Zb q3 Zi))))) mixed {loops:=[(0,[.reg 3 (.own (.ol 154 (.flat (Za2)))),.reg 5 (.dat Iq)]),(2,[.reg 3 (.own (.ol 154 (.flat (Za2)))),.reg 7 (.dat Iq)]),(4,[.reg 3 (.own (.ol 154 (.flat (Za2)))),.reg 8 (.dat Iq)]),(6,[.reg 3 (.own (.ol 154 (.flat (Za2)))),.reg 11 (.dat Iq)])],draws:=[(6,[],.u 0 13 .done),(11,[],.u 0 12 (.u 13 7 (.op 21 (.a [12,20,22] (.op 23 .done)))))]} Tryz.func72 (hvc:=?_)),
 (λq0=>Ze Zq (Zb q0 Zi) mixed {loops:=[(0,[.reg 5 (.own (.ol 4 (.flat (.bool)))),.reg 6 (.dat Iq)])]} Tryz.func74 (hvc:=?_)),
 (Ze Zq Zi mixed {loops:=[(0,[.reg 12 (.dat (.bool)),.ent 0 (nat_lit 4) (.flat Zw8.ety)]),(2,[.reg 12 (.dat (.bool)),.reg 13 (.dat Iq),.ent 0 (nat_lit 4) (.flat Zw8.ety)])],draws:=[(9,[],.u 0 12 .done)]} Tryz.func136 (hvc:=?_)),
 (λq0=>Ze Zq (Zb q0 Zi) mixed {loops:=[(0,[.reg 5 (.dat Iq)])],draws:=[(4,[],.u 0 6 (.alt 6 (.u 7 17 .done) .done))]} Tryz.func183 (hvc:=?_)),
 (λq0 q1=>Ze Xz (Zb q0 (Zb q1 Zi)) mixed {loops:=[(0,[.reg 7 (.own (.ol 84 (.ol 2 (.flat Iq)))),.reg 9 (.dat Iq),.ent 1 (nat_lit 4) (.flat Zw8.ety)]),(2,[.reg 12 (.own (.ol 2 (.flat Iq))),.reg 13 (.dat Iq),.ent 1 (nat_lit 4) (.flat Zw8.ety)])]} Tryz.func76 (hvc:=?_)),
 (Ze Zq Zi mixed {loops:=[(0,[.reg 7 (.dat Iq)])]} Tryz.func137 (hvc:=?_)),
 (λq2 q0 q3 q1=>Ze Zq (Zb q2 (Zb q0 (Zb q3 (Zb q1 Zi)))) mixed {draws:=[(4,[],.o [0,1,2] (.u 4 4 (.a [3,8] (.o [9,10] .done))))]} Tryz.func230 (hvc:=?_)),
 (Ze Zq Zi mixed {} Tryz.func186 (hvc:=?_)),
 (λq0 q1=>Ze Zq (Zb q0 (Zb q1 Zi)) mixed {loops:=[(0,[.reg 16 (.dat (.bool)),.reg 18 (.dat Iq),.cell 1017 0 Iq,.cell 1017 1 Iq,.cell 1017 2 Iq,.cell 1017 3 Iq,.cell 1017 4 Iq]),(2,[.reg 16 (.dat (.bool)),.reg 19 (.dat Iq),.cell 1017 0 Iq,.cell 1017 1 Iq,.cell 1017 2 Iq,.cell 1017 3 Iq,.cell 1017 4 Iq])],draws:=[(14,[],.u 0 9 (.alt 9 (.o [10,11,12] (.alt 13 (.a [14,15,16] .done) (.a [14,13,15,16] .done))) (.alt 13 (.alt 9 (.o [10,11,12] (.a [14,15,16] .done)) (.a [14,9] (.o [10,11,12] (.a [15,16] .done)))) (.alt 14 (.alt 9 (.o [10,11,12] (.a [13,15,16] .done)) (.a [13,9] (.o [10,11,12] (.a [15,16] .done)))) .done)))),(15,[],.u 0 21 (.a [21,22] .done)),(21,[],.o [0,1,2] (.d 3))]} Tryz.func134 (hvc:=?_)),
 (λq0 q3 q2 q1=>Ze Zq (Zb q0 (Zb q3 (Zb q2 (Zb q1 Zi)))) mixed {loops:=[(0,[.reg 6 (.dat Iq)])],draws:=[(5,[],.u 0 7 (.alt 7 (.u 8 25 (.alt 33 (.u 34 8 (.alt 42 (.o [43,44] .done) .done)) .done)) .done))]} Tryz.func127 (hvc:=?_)),
 (λq0=>Ze Zq (Zb q0 Zi) mixed {} Tryz.func122 (hvc:=?_)),
 (Ze Zq Zi mixed {loops:=[(0,[.reg 7 (.dat Iq)])],draws:=[(2,[],.u 0 14 .done),(4,[],.u 0 14 .done),(6,[],.o [0,1,3,4] (.alt 2 (.a [5,6] (.op 7 .done)) (.a [5,2,6] (.op 7 .done))))]} Tryz.func79 (hvc:=?_))⟩
 all_goals
  intro a;repeat rcases a with ⟨_,a⟩
  rintro K ⟨r,h,hK⟩;repeat'
    conv=>whnf
    first
    | with_reducible refine ZDU ?_
    | with_reducible refine Zov (by assumption) (by assumption) (by assumption) ?_
    | with_reducible refine Zsm (by assumption) ?_
    | with_reducible refine Zoz (by assumption) ?_
    | (with_reducible refine shD ?_);first | refine ZtH h (λh=>?_) (λh=>?_) | refine ZCX h (λh=>?_) (λh=>?_)
    | (with_reducible refine ZEw ?_);first | refine ZDr ?_ | refine Zs6 ?_
    | (with_reducible refine ZKz ?_);first | refine Zyt h (λh=>?_) (λh=>?_) | refine ZFA h (λh=>?_) (λh=>?_)
    | (with_reducible refine ZEv ?_);(refine ⟨λhd=>?_,?_⟩)<;>try subst hd
    | (with_reducible refine ZKB ?_);first | with_reducible refine Zj5 h (λx hb h=>?_) | refine Zoz (by assumption) ?_ | with_reducible refine pG h (λhp h=>?_) | with_reducible refine pA h (λx ha hb hx h=>?_) | with_reducible refine pB h (λx hb h=>?_) | refine Zj5 h (λx hb h=>?_)
    | (with_reducible refine ZKy ?_);first | with_reducible refine vAt h (λx ha hb hx h=>?_) | refine Zov (by assumption) (by assumption) (by assumption) ?_ | with_reducible refine pG h (λhp h=>?_) | with_reducible refine pA h (λx ha hb hx h=>?_) | with_reducible refine pB h (λx hb h=>?_) | refine vAt h (λx ha hb hx h=>?_)
    | (with_reducible refine ZEu ?_);first | with_reducible refine Zzj h (λx hb h=>?_) | refine Zsm (by assumption) ?_ | with_reducible refine pG h (λhp h=>?_) | with_reducible refine pA h (λx ha hb hx h=>?_) | with_reducible refine pB h (λx hb h=>?_) | refine Zzj h (λx hb h=>?_)
    | with_reducible refine ZKA ?_
    | (with_reducible refine ZA5 ?_);refine ZBo h hK ?_;clear h hK;intro I μ v r h hK;(repeat rcases v with ⟨_,v⟩);(try dsimp only at h)
    | with_reducible refine ⟨by assumption,?_⟩
    | with_reducible refine orL ?_
    | with_reducible refine .inr ?_
    | (with_reducible refine ZEx ?_);first | refine ⟨?_,True.intro⟩ | refine ⟨?_,?_⟩
    | refine ⟨by kernel_rfl,?_⟩
    | refine ⟨by decide,?_⟩
    | with_reducible refine ZFO h (λhp h=>?_)
    | intro fp
    | exact trivial
    | with_reducible exact ZDR h
    | (refine pS h (λe=>?_));subst e;(repeat (first | exact hK | exact ⟨⟨rfl,rfl⟩,hK.1 _ rfl⟩ | (refine pR hK (λe hK=>?_));subst e));done
    | refine ZFO h (λhp h=>?_)
    | refine ⟨by assumption,?_⟩
    | with_reducible refine pG h (λhp h=>?_) | with_reducible refine pA h (λx ha hb hx h=>?_) | with_reducible refine pB h (λx hb h=>?_)
    | refine pG h (λhp h=>?_)
    | fail
theorem ZuV (rec0:(List Zc)->Int->Option Y2) (hrec:Sq 78 (Zg1 rec0)):Sq 78 (Zg1 (ZcF rec0)):=by
 refine Ze Zq (Zb hrec Zi) mixed {} (fn:=Tryz.f78) Tryz.func78 (by kernel_rfl) (by kernel_rfl) ?_;rintro ⟨list0,k0,⟨⟩⟩ K ⟨r,h,hK⟩
 change ZcF rec0 list0 k0=some r at h
 unfold ZcF at h
 conv=>whnf
 refine vAt h (λx0 he0a he0b he0x h=>?_)
 conv=>whnf
 refine ZtH h (λh=>?_) (λh=>?_)
 conv=>whnf
 cases h;exact hK
 conv=>whnf
 refine Zj5 h (λr0 hb1 h=>?_)
 conv=>whnf
 refine ZtH h (λh=>?_) (λh=>?_)
 conv=>whnf
 refine ⟨by decide,?_⟩
 conv=>whnf
 refine Zyt h (λh=>?_) (λh=>?_)
 conv=>whnf
 cases h;exact hK
 conv=>whnf
 cases h;exact hK
 conv=>whnf
 refine Zyt h (λh=>?_) (λh=>?_)
 conv=>whnf
 cases h;exact hK
 conv=>whnf
 cases h;exact hK
theorem w76:Sq 78 c76:=by
 have hn:∀ n,Sq 78 (Zg1 (ZcG n)):=by
  intro n;induction n with
  | zero =>
  refine Ze Zq Zi mixed {} (fn:=Tryz.f78) Tryz.func78 (by kernel_rfl) (by kernel_rfl) ?_;rintro ⟨list0,k0,⟨⟩⟩ K ⟨r,h,hK⟩;cases h
  | succ n ih=>exact ZuV _ ih
 refine ⟨(hn 0).1,?_⟩;rintro w S vs ⟨list0,k0,⟨⟩⟩ fp K h1 h0 h2 h3 h4 ⟨r,h,hK⟩;obtain ⟨n,hr⟩:=ZvM h;exact (hn n).2 w S vs _ fp K h1 h0 h2 h3 h4 ⟨r,hr,hK⟩
end Go.Proofs.YtpkjbcbepmpddaaGreatDoor
