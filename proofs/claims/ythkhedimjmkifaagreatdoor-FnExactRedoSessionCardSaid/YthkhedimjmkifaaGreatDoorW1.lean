/-
  The functions keep their contracts, if what they call does. Printed by program.
-/
import Derived.Test.YthkhedimjmkifaaGreatDoorM
import Derived.KernelRfl
namespace Go.Proofs.YthkhedimjmkifaaGreatDoor
open Go Go.Sx
set_option maxRecDepth 100000
set_option maxHeartbeats 3200000
set_option linter.unusedVariables false
set_option linter.unusedSimpArgs false
structure Ws1:Prop where
 w256:Sq 159 ZCL→Sq 164 ZCT
 w255:Sq 163 ZCA
 w158:Sq 345 ZEK
 w195:Sq 245 c131→Sq 293 ZA5
 w169:Sq 252 ZEN→Sq 240 ZEJ
 w264:Sq 233 ZEU
 w188:Sq 159 ZCL→Sq 231 ZDG
 w267:Sq 159 ZCL→Sq 59 ZCQ→Sq 161 ZET→Sq 165 ZFa→Sq 162 ZDT→Sq 124 ZBb→Sq 88 ZDQ
 w224:Sq 245 c131→Sq 263 ZDf→Sq 262 ZD3→Sq 159 ZCL→Sq 254 ZDF→Sq 264 ZEZ→Sq 242 ZDh→Sq 180 c139→Sq 193 ZCw
 w234:Sq 159 ZCL→Sq 265 c227→Sq 266 c228→Sq 267 ZzY→Sq 268 ZEq→Sq 269 c232→Sq 270 c233→Sq 180 c139→Sq 178 c183→Sq 194 c234
 w229:Sq 305 c229
 w217:Sq 260 ZCc→Sq 261 ZCG→Sq 245 c131→Sq 252 ZEN→Sq 192 ZEF
 w177:Sq 244 ZuU
 w146:Sq 378 c145→Sq 247 c143→Sq 369 c146
 w136:Sq 267 ZzY→Sq 295 ZzS→Sq 252 ZEN
 w137:Sq 245 c131→Sq 342 ZDv→Sq 252 ZEN→Sq 323 ZE4
 w151:Sq 367 ZCE→Sq 358 ZAY
 w263:Sq 124 ZBb→Sq 155 ZEV
 w228:Sq 266 c228
 w144:Sq 259 ZDE
 w216:Sq 261 ZCG
 w139:Sq 180 c139
 w223:Sq 299 c222→Sq 262 ZD3
 w210:Sq 254 ZDF→Sq 247 c143→Sq 258 ZC8→Sq 259 ZDE→Sq 191 c210
 w277:Sq 313 ZDs→Sq 279 ZDM
 w291:Sq 133 ZCM→Sq 64 ZPW
 w298:Sq 136 ZPZ→Sq 67 ZP0
 w286:Sq 130 ZDB→Sq 131 ZDd→Sq 132 ZDH→Sq 62 ZDY
 w281:Sq 166 ZEG→Sq 213 ZCK
 w299:Sq 64 ZPW→Sq 65 ZPz→Sq 66 ZPA→Sq 67 ZP0→Sq 20 ZPH
 w334:Sq 143 ZQl→Sq 144 ZQm→Sq 145 ZPN→Sq 76 ZPy
 w335:Sq 142 ZP3→Sq 146 ZPF
 w337:Sq 150 ZPL→Sq 148 ZPG
 w318:Sq 141 ZPI→Sq 73 ZQd
 w317:Sq 72 ZPK
 w305:Sq 141 ZPI
 w304:Sq 142 ZP3→Sq 216 ZPB
 w320:Sq 71 ZQc→Sq 72 ZPK→Sq 73 ZQd→Sq 74 ZQe→Sq 22 ZQf
 w18:Sq 42 c9→Sq 43 c15→Sq 44 c17→Sq 13 c18
 w19:Sq 106 c19
 w22:Sq 156 c2→Sq 107 c22
 w10:Sq 156 c2→Sq 198 c10
 w2:Sq 156 c2
 w14:Sq 199 c13→Sq 105 c14
 w29:Sq 13 c18→Sq 14 c26→Sq 35 c28→Sq 8 c29
 w4:Sq 353 c3→Sq 336 c4
 w16:Sq 156 c2→Sq 83 c16
 w35:Sq 337 c34→Sq 311 c35
 w36:Sq 311 c35→Sq 277 c36
 w38:Sq 202 c37→Sq 114 c38
 w54:Sq 157 c32→Sq 120 c54
 w55:Sq 120 c54→Sq 57 c55
 w52:Sq 205 c51→Sq 119 c52
 w30:Sq 310 c30
 w245:Sq 207 ZDZ
 w238:Sq 127 ZD7
 w250:Sq 211 ZAL
 w187:Sq 128 ZC4
 w203:Sq 253 ZE2→Sq 185 c203
 w150:Sq 377 ZEb→Sq 367 ZCE
 w175:Sq 326 ZDp→Sq 289 c175
 w179:Sq 291 ZEw→Sq 243 ZBY
 w159:Sq 345 ZEK→Sq 361 c159
 w149:Sq 368 c148→Sq 377 ZEb
 w265:Sq 233 ZEU→Sq 232 ZDt
 w147:Sq 370 ZDx
 w102:Sq 91 c79→Sq 283 c92→Sq 284 c93→Sq 285 ZC2→Sq 222 ZFf
 w96:Sq 317 c96
 w88:Sq 91 c79→Sq 175 c87→Sq 172 c63→Sq 95 c88
 w130:Sq 9 ZDw→Sq 79 c124→Sq 80 ZAv→Sq 81 ZBK→Sq 25 c130
 w69:Sq 172 c63→Sq 341 c68→Sq 321 c69
 w70:Sq 322 c70
 w110:Sq 201 c107→Sq 275 c109→Sq 200 ZEI
 w68:Sq 356 c67→Sq 341 c68
 w97:Sq 339 c97
 w74:Sq 237 c62→Sq 236 c74
 w112:Sq 201 c107→Sq 112 ZEQ
 w77:Sq 94 c76→Sq 169 c77
 w114:Sq 111 ZFb→Sq 112 ZEQ→Sq 113 ZA2→Sq 51 ZEl
 w99:Sq 340 c99
 w81:Sq 172 c63→Sq 171 c81
 w103:Sq 94 c76→Sq 223 ZE1
 w106:Sq 109 ZDX→Sq 110 c105→Sq 49 ZC6
 w127:Sq 113 ZA2→Sq 154 c127
 w124:Sq 151 ZDb→Sq 152 ZCu→Sq 153 ZDN→Sq 79 c124
set_option maxHeartbeats 100000000 in
theorem ws1:Ws1:=by
 refine ⟨(fun q0=>Zf Xa (Zd q0 Zk) mixed {loops:=[(0,[.reg 13 (.dat Iq),.ent 4 (nat_lit 86) (Dp.pair (Dp.ol (2:Go.TypeId) (Dp.flat (Ty.int IntKind.i64))) (Dp.pair (Dp.ol (2:Go.TypeId) (Dp.flat (Ty.int IntKind.i64))) (Dp.pair (Dp.ol (2:Go.TypeId) (Dp.flat (Ty.int IntKind.i64))) (Dp.pair (Dp.ol (2:Go.TypeId) (Dp.flat (Ty.int IntKind.i64))) (Dp.flat Ty.unit)))))]),(2,[.reg 30 (.dat Iq),.ent 4 (nat_lit 86) (Dp.pair (Dp.ol (2:Go.TypeId) (Dp.flat (Ty.int IntKind.i64))) (Dp.pair (Dp.ol (2:Go.TypeId) (Dp.flat (Ty.int IntKind.i64))) (Dp.pair (Dp.ol (2:Go.TypeId) (Dp.flat (Ty.int IntKind.i64))) (Dp.pair (Dp.ol (2:Go.TypeId) (Dp.flat (Ty.int IntKind.i64))) (Dp.flat Ty.unit)))))])],draws:=[(9,[0,1,3,7,0,16,63,127],.op 0 (.op 1 (.op 2 (.op 3 (.op 4 (.op 5 (.op 6 (.op 7 (.done))))))))),(10,[0,0,2,6,14,0,0,64,0,256,960,2016,4064,8190,16383,32767,65535],.op 0 (.op 1 (.op 2 (.op 3 (.op 5 (.op 6 (.op 7 (.op 8 (.op 9 (.op 10 (.alt 4 (.alt 11 (.alt 12 (.alt 13 (.op 14 (.op 15 (.alt 16 (.done) (.done)))) (.done)) (.done)) (.done)) (.alt 11 (.alt 4 (.alt 12 (.alt 13 (.op 14 (.op 15 (.alt 16 (.done) (.done)))) (.done)) (.done)) (.alt 12 (.alt 4 (.alt 13 (.op 14 (.op 15 (.alt 16 (.done) (.done)))) (.done)) (.done)) (.done))) (.done)))))))))))))]} Tryz.func164 (hvc:=?_)),
 (Zf Xa Zk mixed {draws:=[(2,[0,1,3,7,15,0,32,0,255,511,1023],.op 0 (.op 1 (.op 2 (.op 3 (.op 4 (.op 5 (.op 6 (.op 7 (.op 8 (.op 9 (.alt 10 (.done) (.done)))))))))))),(3,[0,1,3,7,15,0,32,127,255,511,0,1024,0,8191,16383],.op 0 (.op 1 (.op 2 (.op 3 (.op 4 (.op 5 (.op 6 (.op 7 (.op 8 (.op 9 (.op 10 (.op 11 (.op 12 (.op 13 (.alt 14 (.done) (.done))))))))))))))))]} Tryz.func163 (hvc:=?_)),
 (Zf Zq Zk mixed {} Tryz.func345 (hvc:=?_)),
 (fun q0=>Zf Zq (Zd q0 Zk) mixed {} Tryz.func293 (hvc:=?_)),
 (fun q0=>Zf Zq (Zd q0 Zk) mixed {loops:=[(0,[.reg 3 (.own (.ol 9 (.flat (.str)))),.reg 12 (.dat Iq)]),(2,[.reg 4 (.own (.ol 9 (.flat (.str)))),.reg 25 (.dat Iq)])]} Tryz.func240 (hvc:=?_)),
 (Zf Zq Zk mixed {} Tryz.func233 (hvc:=?_)),
 (fun q0=>Zf Zq (Zd q0 Zk) mixed {loops:=[(0,[.reg 5 (.own (.ol 2 (.flat Iq))),.reg 11 (.dat Iq)])]} Tryz.func231 (hvc:=?_)),
 (fun q2 q4 q0 q1 q3 q5=>Zf Zq (Zd q2 (Zd q4 (Zd q0 (Zd q1 (Zd q3 (Zd q5 Zk)))))) mixed {draws:=[(4,[0,1,0,4,0,16,0,64,240,496,1008,2044,4092,8188,16383,32767],.op 0 (.op 1 (.op 2 (.op 3 (.op 4 (.op 6 (.op 7 (.alt 5 (.op 8 (.op 9 (.op 10 (.op 11 (.op 12 (.op 13 (.op 14 (.alt 15 (.done) (.done))))))))) (.done))))))))),(11,[0,1,0,4,0,16,63,0,128,0,512,2047,4095],.op 0 (.op 1 (.op 2 (.op 3 (.op 4 (.op 5 (.op 7 (.op 8 (.op 9 (.op 10 (.alt 6 (.op 11 (.alt 12 (.done) (.done))) (.done)))))))))))),(13,[0,1,0,4,15,31,0,127],.op 0 (.op 2 (.op 3 (.alt 1 (.op 4 (.op 5 (.alt 6 (.alt 7 (.done) (.done)) (.done)))) (.alt 6 (.alt 1 (.op 4 (.op 5 (.alt 7 (.done) (.done)))) (.done)) (.done)))))),(14,[0,1,0,4,0,16,0,64,0,256,960,2032,4095,8191],.op 0 (.op 2 (.op 4 (.op 6 (.op 7 (.op 8 (.op 9 (.op 10 (.alt 1 (.alt 3 (.alt 5 (.alt 11 (.op 12 (.alt 13 (.done) (.done))) (.done)) (.done)) (.alt 5 (.alt 3 (.alt 11 (.op 12 (.alt 13 (.done) (.done))) (.done)) (.alt 11 (.alt 3 (.op 12 (.alt 13 (.done) (.done))) (.done)) (.done))) (.done))) (.alt 3 (.alt 1 (.alt 5 (.alt 11 (.op 12 (.alt 13 (.done) (.done))) (.done)) (.done)) (.alt 5 (.alt 1 (.alt 11 (.op 12 (.alt 13 (.done) (.done))) (.done)) (.alt 11 (.alt 1 (.op 12 (.alt 13 (.done) (.done))) (.done)) (.done))) (.done))) (.alt 5 (.alt 1 (.alt 3 (.alt 11 (.op 12 (.alt 13 (.done) (.done))) (.done)) (.alt 11 (.alt 3 (.op 12 (.alt 13 (.done) (.done))) (.done)) (.done))) (.alt 3 (.alt 1 (.alt 11 (.op 12 (.alt 13 (.done) (.done))) (.done)) (.alt 11 (.alt 1 (.op 12 (.alt 13 (.done) (.done))) (.done)) (.done))) (.alt 11 (.alt 1 (.alt 3 (.op 12 (.alt 13 (.done) (.done))) (.done)) (.alt 3 (.alt 1 (.op 12 (.alt 13 (.done) (.done))) (.done)) (.done))) (.done)))) (.done)))))))))))),(15,[0,1,0,4,0,16,60,124,252,511,1023],.op 0 (.op 1 (.op 2 (.op 3 (.op 4 (.op 5 (.op 6 (.op 7 (.alt 8 (.op 9 (.alt 10 (.done) (.done))) (.done))))))))))]} Tryz.func88 (hvc:=?_)),
 (fun q7 q5 q6 q2 q0 q1 q3 q4=>Zf Zq (Zd q7 (Zd q5 (Zd q6 (Zd q2 (Zd q0 (Zd q1 (Zd q3 (Zd q4 Zk)))))))) mixed {draws:=[(1,[0,1,3,7,15,31,31,95,255,511,1023],.op 0 (.op 1 (.alt 2 (.op 3 (.op 4 (.op 5 (.op 6 (.alt 7 (.alt 8 (.op 9 (.op 10 (.done))) (.done)) (.done)))))) (.done)))),(3,[0,1,0,4,12,28,60,127,255],.op 0 (.op 1 (.op 2 (.op 3 (.alt 4 (.alt 5 (.op 6 (.alt 7 (.op 8 (.done)) (.done))) (.done)) (.done)))))),(7,[0,1,3,7,3,19,51,115,243,511,1023,2047],.op 0 (.op 1 (.op 2 (.op 3 (.op 4 (.op 5 (.op 6 (.alt 7 (.op 8 (.alt 9 (.op 10 (.op 11 (.done))) (.done))) (.done))))))))),(9,[0,1,3,7,3,19,63,127,255,511,1023,511,2559,511,8703,31231,63999,129535,260607,522751,1048575,2097151,4194303],.op 0 (.op 1 (.op 2 (.op 3 (.op 4 (.op 5 (.alt 6 (.op 7 (.op 8 (.op 9 (.op 10 (.op 11 (.op 12 (.op 13 (.op 14 (.op 15 (.op 16 (.op 17 (.alt 18 (.op 19 (.alt 20 (.op 21 (.op 22 (.done))) (.done))) (.done))))))))))))) (.done))))))))]} Tryz.func193 (hvc:=?_)),
 (fun q2 q5 q6 q7 q3 q1 q0 q4 q8=>Zf Zq (Zd q2 (Zd q5 (Zd q6 (Zd q7 (Zd q3 (Zd q1 (Zd q0 (Zd q4 (Zd q8 Zk))))))))) mixed {draws:=[(6,[0,1,3,7,15,31,63,127,255,511,1023,255,2303,255,8447,30975,63743,129279,262143,524287,255,1048831,3145983,255,8388863,32506111,66060543,134217727,268435455,536870911],.op 0 (.op 1 (.op 2 (.op 3 (.op 4 (.op 5 (.op 6 (.op 7 (.op 8 (.op 9 (.op 10 (.op 11 (.op 12 (.op 13 (.op 14 (.op 15 (.op 16 (.op 17 (.op 18 (.op 19 (.op 20 (.op 21 (.op 22 (.op 23 (.op 24 (.op 25 (.op 26 (.alt 27 (.op 28 (.op 29 (.done))) (.done))))))))))))))))))))))))))))),(12,[0,0,2,7,15,31,63,127,255,255,767,2047,4095,8191,255,16639,65535,131071,262143],.op 0 (.op 1 (.op 2 (.op 3 (.op 4 (.op 5 (.op 6 (.op 7 (.op 8 (.op 9 (.op 10 (.op 11 (.op 12 (.op 13 (.op 14 (.op 15 (.op 16 (.op 17 (.op 18 (.done)))))))))))))))))))),(13,[0,1,0,4,0,16,60,124,252,508,1023,2047],.op 0 (.op 1 (.op 2 (.op 3 (.op 4 (.op 5 (.op 6 (.op 7 (.op 8 (.alt 9 (.alt 10 (.op 11 (.done)) (.done)) (.done)))))))))))]} Tryz.func194 (hvc:=?_)),
 (Zf Zq Zk mixed {} Tryz.func305 (hvc:=?_)),
 (fun q1 q0 q3 q2=>Zf Zq (Zd q1 (Zd q0 (Zd q3 (Zd q2 Zk)))) mixed {loops:=[(0,[.reg 3 (.own (.ol 9 (.flat (.str)))),.reg 8 (.dat Iq)])]} Tryz.func192 (hvc:=?_)),
 (Zf Zq Zk mixed {} Tryz.func244 (hvc:=?_)),
 (fun q1 q0=>Zf Zq (Zd q1 (Zd q0 Zk)) mixed {} Tryz.func369 (hvc:=?_)),
 (fun q1 q0=>Zf Zq (Zd q1 (Zd q0 Zk)) mixed {loops:=[(0,[.reg 7 (.dat Iq)])]} Tryz.func252 (hvc:=?_)),
 (fun q2 q0 q1=>Zf Zq (Zd q2 (Zd q0 (Zd q1 Zk))) mixed {loops:=[(0,[.reg 3 (.own (.ol 9 (.flat (.str)))),.reg 8 (.dat Iq)])]} Tryz.func323 (hvc:=?_)),
 (fun q0=>Zf Zq (Zd q0 Zk) mixed {} Tryz.func358 (hvc:=?_)),
 (fun q0=>Zf Xa (Zd q0 Zk) mixed {loops:=[(0,[.reg 3 (.own (.ol 88 (Zo8))),.reg 8 (.dat Iq)])]} Tryz.func155 (hvc:=?_)),
 (Zf Zq Zk mixed {} Tryz.func266 (hvc:=?_)),
 (Zf Zq Zk mixed {loops:=[(0,[.reg 3 (.dat Iq)])],draws:=[(4,[0,0,2,7,15,0,0,96,224,511],.op 0 (.op 1 (.op 2 (.op 3 (.op 4 (.op 5 (.op 6 (.op 7 (.op 8 (.op 9 (.done)))))))))))]} Tryz.func259 (hvc:=?_)),
 (Zf Zq Zk mixed {} Tryz.func261 (hvc:=?_)),
 (Zf Zq Zk mixed {} Tryz.func180 (hvc:=?_)),
 (fun q0=>Zf Zq (Zd q0 Zk) mixed {} Tryz.func262 (hvc:=?_)),
 (fun q0 q2 q3 q1=>Zf Zq (Zd q0 (Zd q2 (Zd q3 (Zd q1 Zk)))) mixed {loops:=[(0,[.reg 15 (.dat Iq)])]} Tryz.func191 (hvc:=?_)),
 (fun q0=>Zf Zq (Zd q0 Zk) mixed {loops:=[(0,[.reg 5 (.dat Iq)])],draws:=[(6,[0,0,3,7,0,0,48,112,255,511],.op 0 (.op 1 (.op 2 (.op 3 (.op 4 (.op 5 (.op 6 (.op 7 (.alt 8 (.op 9 (.done)) (.done))))))))))]} Tryz.func279 (hvc:=?_)),
 (fun q0=>Zf Zq (Zd q0 Zk) mixed {loops:=[(0,[.reg 5 (.dat Iq)])],draws:=[(6,[0,0,3,7,0,0,48,112,255,511],.op 0 (.op 1 (.op 2 (.op 3 (.op 4 (.op 5 (.op 6 (.op 7 (.alt 8 (.op 9 (.done)) (.done))))))))))]} Tryz.func64 (hvc:=?_)),
 (fun q0=>Zf Zq (Zd q0 Zk) mixed {loops:=[(0,[.reg 5 (.dat Iq)])],draws:=[(6,[0,0,3,7,0,0,48,112,255,511],.op 0 (.op 1 (.op 2 (.op 3 (.op 4 (.op 5 (.op 6 (.op 7 (.alt 8 (.op 9 (.done)) (.done))))))))))]} Tryz.func67 (hvc:=?_)),
 (fun q0 q1 q2=>Zf Zq (Zd q0 (Zd q1 (Zd q2 Zk))) mixed {} Tryz.func62 (hvc:=?_)),
 (fun q0=>Zf Zq (Zd q0 Zk) mixed {} Tryz.func213 (hvc:=?_)),
 (fun q3 q1 q0 q2=>Zf Zq (Zd q3 (Zd q1 (Zd q0 (Zd q2 Zk)))) mixed {} Tryz.func20 (hvc:=?_)),
 (fun q0 q1 q2=>Zf Zq (Zd q0 (Zd q1 (Zd q2 Zk))) mixed {} Tryz.func76 (hvc:=?_)),
 (fun q0=>Zf Zq (Zd q0 Zk) mixed {loops:=[(0,[.reg 1 (.dat Iq),.reg 5 (.dat Iq)])],draws:=[(4,[0,0,3,7,15,0,32,127],.op 0 (.op 1 (.op 2 (.op 3 (.op 4 (.op 5 (.alt 6 (.op 7 (.done)) (.done))))))))]} Tryz.func146 (hvc:=?_)),
 (fun q0=>Zf Zq (Zd q0 Zk) mixed {loops:=[(0,[.reg 1 (.dat Iq),.reg 5 (.dat Iq)])]} Tryz.func148 (hvc:=?_)),
 (fun q0=>Zf Xa (Zd q0 Zk) mixed {loops:=[(0,[.reg 1 (.dat Iq),.reg 5 (.dat Iq),.ent 0 (nat_lit 155) (Dp.pair (Dp.flat (Ty.int IntKind.i64)) (Dp.pair (Dp.flat (Ty.int IntKind.i64)) (Dp.pair (Dp.ol (2:Go.TypeId) (Dp.flat (Ty.int IntKind.i64))) (Dp.pair (Dp.ol (2:Go.TypeId) (Dp.flat (Ty.int IntKind.i64))) (Dp.pair (Dp.ol (2:Go.TypeId) (Dp.flat (Ty.int IntKind.i64))) (Dp.flat Ty.unit))))))])]} Tryz.func73 (hvc:=?_)),
 (Zf Xa Zk mixed {loops:=[(0,[.reg 1 (.dat Iq),.reg 5 (.dat Iq),.ent 0 (nat_lit 187) (.flat Yg)])]} Tryz.func72 (hvc:=?_)),
 (Zf Xa Zk mixed {loops:=[(0,[.reg 1 (.dat Iq),.reg 5 (.dat Iq),.ent 0 (nat_lit 2) (.flat (Ty.int IntKind.i64))])]} Tryz.func141 (hvc:=?_)),
 (fun q0=>Zf Xa (Zd q0 Zk) mixed {loops:=[(0,[.reg 1 (.dat Iq),.reg 5 (.dat Iq),.ent 0 (nat_lit 285) (.flat ZgP)])]} Tryz.func216 (hvc:=?_)),
 (fun q3 q1 q0 q2=>Zf Xa (Zd q3 (Zd q1 (Zd q0 (Zd q2 Zk)))) mixed {} Tryz.func22 (hvc:=?_)),
 (fun q0 q1 q2=>Zf Zq (Zd q0 (Zd q1 (Zd q2 Zk))) mixed {} Tryz.func13 (hvc:=?_)),
 (Zf Zq Zk mixed {} Tryz.func106 (hvc:=?_)),
 (fun q0=>Zf Zq (Zd q0 Zk) mixed {} Tryz.func107 (hvc:=?_)),
 (fun q0=>Zf Zq (Zd q0 Zk) mixed {} Tryz.func198 (hvc:=?_)),
 (Zf Zq Zk mixed {} Tryz.func156 (hvc:=?_)),
 (fun q0=>Zf Zq (Zd q0 Zk) mixed {loops:=[(0,[.reg 1 (.dat Iq),.reg 5 (.dat Iq)])]} Tryz.func105 (hvc:=?_)),
 (fun q0 q1 q2=>Zf Zq (Zd q0 (Zd q1 (Zd q2 Zk))) mixed {} Tryz.func8 (hvc:=?_)),
 (fun q0=>Zf Zq (Zd q0 Zk) mixed {loops:=[(0,[.reg 1 (.dat Iq),.reg 5 (.dat Iq)])]} Tryz.func336 (hvc:=?_)),
 (fun q0=>Zf Zq (Zd q0 Zk) mixed {} Tryz.func83 (hvc:=?_)),
 (fun q0=>Zf Xa (Zd q0 Zk) mixed {} Tryz.func311 (hvc:=?_)),
 (fun q0=>Zf Xa (Zd q0 Zk) mixed {loops:=[(0,[.reg 4 (.dat Iq),.ent 0 (nat_lit 289) Zxz])]} Tryz.func277 (hvc:=?_)),
 (fun q0=>Zf Xa (Zd q0 Zk) mixed {loops:=[(0,[.reg 4 (.dat Iq),.ent 0 (nat_lit 277) Zoy])]} Tryz.func114 (hvc:=?_)),
 (fun q0=>Zf Zq (Zd q0 Zk) mixed {} Tryz.func120 (hvc:=?_)),
 (fun q0=>Zf Xa (Zd q0 Zk) mixed {loops:=[(0,[.reg 4 (.dat Iq),.ent 0 (nat_lit 155) ZaM])]} Tryz.func57 (hvc:=?_)),
 (fun q0=>Zf Zq (Zd q0 Zk) mixed {} Tryz.func119 (hvc:=?_)),
 (Zf Zq Zk mixed {} Tryz.func310 (hvc:=?_)),
 (Zf Zq Zk mixed {} Tryz.func207 (hvc:=?_)),
 (Zf Zq Zk mixed {} Tryz.func127 (hvc:=?_)),
 (Zf Zq Zk mixed {} Tryz.func211 (hvc:=?_)),
 (Zf Zq Zk mixed {} Tryz.func128 (hvc:=?_)),
 (fun q0=>Zf Zq (Zd q0 Zk) mixed {} Tryz.func185 (hvc:=?_)),
 (fun q0=>Zf Zq (Zd q0 Zk) mixed {} Tryz.func367 (hvc:=?_)),
 (fun q0=>Zf Zq (Zd q0 Zk) mixed {} Tryz.func289 (hvc:=?_)),
 (fun q0=>Zf Zq (Zd q0 Zk) mixed {} Tryz.func243 (hvc:=?_)),
 (fun q0=>Zf Zq (Zd q0 Zk) mixed {loops:=[(0,[.reg 8 (.dat Iq)])]} Tryz.func361 (hvc:=?_)),
 (fun q0=>Zf Zq (Zd q0 Zk) mixed {loops:=[(0,[.reg 8 (.dat Iq)])]} Tryz.func377 (hvc:=?_)),
 (fun q0=>Zf Zq (Zd q0 Zk) mixed {loops:=[(0,[.reg 8 (.dat Iq)])]} Tryz.func232 (hvc:=?_)),
 (Zf Zq Zk mixed {loops:=[(0,[.reg 3 (.dat Iq),.reg 4 (.dat Iq)])]} Tryz.func370 (hvc:=?_)),
 (fun q3 q0 q1 q2=>Zf Zq (Zd q3 (Zd q0 (Zd q1 (Zd q2 Zk)))) mixed {} Tryz.func222 (hvc:=?_)),
 (Zf Zq Zk mixed {loops:=[(0,[.reg 5 (.dat Iq)])]} Tryz.func317 (hvc:=?_)),
 (fun q1 q0 q2=>Zf Zq (Zd q1 (Zd q0 (Zd q2 Zk))) mixed {} Tryz.func95 (hvc:=?_)),
 (fun q0 q2 q3 q1=>Zf Zq (Zd q0 (Zd q2 (Zd q3 (Zd q1 Zk)))) mixed {draws:=[(5,[0,1,0,4,0,16,48,112,255,511,1023,1023,1023,1023,0,0,0,116735,249855,516095,1048575],.op 0 (.op 1 (.op 2 (.op 3 (.op 4 (.op 5 (.op 6 (.op 7 (.alt 8 (.op 9 (.op 10 (.op 11 (.op 12 (.op 13 (.alt 14 (.alt 15 (.alt 16 (.alt 17 (.alt 18 (.alt 19 (.op 20 (.done)) (.done)) (.done)) (.done)) (.done)) (.alt 16 (.alt 15 (.alt 17 (.alt 18 (.alt 19 (.op 20 (.done)) (.done)) (.done)) (.done)) (.done)) (.done))) (.alt 15 (.alt 14 (.alt 16 (.alt 17 (.alt 18 (.alt 19 (.op 20 (.done)) (.done)) (.done)) (.done)) (.done)) (.alt 16 (.alt 14 (.alt 17 (.alt 18 (.alt 19 (.op 20 (.done)) (.done)) (.done)) (.done)) (.done)) (.done))) (.alt 16 (.alt 14 (.alt 15 (.alt 17 (.alt 18 (.alt 19 (.op 20 (.done)) (.done)) (.done)) (.done)) (.done)) (.alt 15 (.alt 14 (.alt 17 (.alt 18 (.alt 19 (.op 20 (.done)) (.done)) (.done)) (.done)) (.done)) (.done))) (.done))))))))) (.alt 14 (.alt 8 (.op 9 (.op 10 (.op 11 (.op 12 (.op 13 (.alt 15 (.alt 16 (.alt 17 (.alt 18 (.alt 19 (.op 20 (.done)) (.done)) (.done)) (.done)) (.done)) (.alt 16 (.alt 15 (.alt 17 (.alt 18 (.alt 19 (.op 20 (.done)) (.done)) (.done)) (.done)) (.done)) (.done)))))))) (.alt 15 (.alt 8 (.op 9 (.op 10 (.op 11 (.op 12 (.op 13 (.alt 16 (.alt 17 (.alt 18 (.alt 19 (.op 20 (.done)) (.done)) (.done)) (.done)) (.done))))))) (.alt 16 (.alt 8 (.op 9 (.op 10 (.op 11 (.op 12 (.op 13 (.alt 17 (.alt 18 (.alt 19 (.op 20 (.done)) (.done)) (.done)) (.done))))))) (.done)) (.done))) (.alt 16 (.alt 8 (.op 9 (.op 10 (.op 11 (.op 12 (.op 13 (.alt 15 (.alt 17 (.alt 18 (.alt 19 (.op 20 (.done)) (.done)) (.done)) (.done)) (.done))))))) (.alt 15 (.alt 8 (.op 9 (.op 10 (.op 11 (.op 12 (.op 13 (.alt 17 (.alt 18 (.alt 19 (.op 20 (.done)) (.done)) (.done)) (.done))))))) (.done)) (.done))) (.done)))) (.alt 15 (.alt 8 (.op 9 (.op 10 (.op 11 (.op 12 (.op 13 (.alt 14 (.alt 16 (.alt 17 (.alt 18 (.alt 19 (.op 20 (.done)) (.done)) (.done)) (.done)) (.done)) (.alt 16 (.alt 14 (.alt 17 (.alt 18 (.alt 19 (.op 20 (.done)) (.done)) (.done)) (.done)) (.done)) (.done)))))))) (.alt 14 (.alt 8 (.op 9 (.op 10 (.op 11 (.op 12 (.op 13 (.alt 16 (.alt 17 (.alt 18 (.alt 19 (.op 20 (.done)) (.done)) (.done)) (.done)) (.done))))))) (.alt 16 (.alt 8 (.op 9 (.op 10 (.op 11 (.op 12 (.op 13 (.alt 17 (.alt 18 (.alt 19 (.op 20 (.done)) (.done)) (.done)) (.done))))))) (.done)) (.done))) (.alt 16 (.alt 8 (.op 9 (.op 10 (.op 11 (.op 12 (.op 13 (.alt 14 (.alt 17 (.alt 18 (.alt 19 (.op 20 (.done)) (.done)) (.done)) (.done)) (.done))))))) (.alt 14 (.alt 8 (.op 9 (.op 10 (.op 11 (.op 12 (.op 13 (.alt 17 (.alt 18 (.alt 19 (.op 20 (.done)) (.done)) (.done)) (.done))))))) (.done)) (.done))) (.done)))) (.alt 16 (.alt 8 (.op 9 (.op 10 (.op 11 (.op 12 (.op 13 (.alt 14 (.alt 15 (.alt 17 (.alt 18 (.alt 19 (.op 20 (.done)) (.done)) (.done)) (.done)) (.done)) (.alt 15 (.alt 14 (.alt 17 (.alt 18 (.alt 19 (.op 20 (.done)) (.done)) (.done)) (.done)) (.done)) (.done)))))))) (.alt 14 (.alt 8 (.op 9 (.op 10 (.op 11 (.op 12 (.op 13 (.alt 15 (.alt 17 (.alt 18 (.alt 19 (.op 20 (.done)) (.done)) (.done)) (.done)) (.done))))))) (.alt 15 (.alt 8 (.op 9 (.op 10 (.op 11 (.op 12 (.op 13 (.alt 17 (.alt 18 (.alt 19 (.op 20 (.done)) (.done)) (.done)) (.done))))))) (.done)) (.done))) (.alt 15 (.alt 8 (.op 9 (.op 10 (.op 11 (.op 12 (.op 13 (.alt 14 (.alt 17 (.alt 18 (.alt 19 (.op 20 (.done)) (.done)) (.done)) (.done)) (.done))))))) (.alt 14 (.alt 8 (.op 9 (.op 10 (.op 11 (.op 12 (.op 13 (.alt 17 (.alt 18 (.alt 19 (.op 20 (.done)) (.done)) (.done)) (.done))))))) (.done)) (.done))) (.done)))) (.done))))))))))))),(6,[0,0,0,4,12,0,0,64,252,511,1023,2047],.op 0 (.op 1 (.op 2 (.op 3 (.op 5 (.op 6 (.op 7 (.alt 4 (.alt 8 (.op 9 (.alt 10 (.op 11 (.done)) (.done))) (.done)) (.done)))))))))]} Tryz.func25 (hvc:=?_)),
 (fun q1 q0=>Zf Zq (Zd q1 (Zd q0 Zk)) mixed {} Tryz.func321 (hvc:=?_)),
 (Zf Zq Zk mixed {loops:=[(0,[.reg 4 (.dat Iq),.ent 1 (nat_lit 2) (.flat Zvn.ety)])]} Tryz.func322 (hvc:=?_)),
 (fun q1 q0=>Zf Xa (Zd q1 (Zd q0 Zk)) mixed {loops:=[(0,[.reg 4 (.dat Iq),.cello 1003 3 (.ol 289 (Zxz))])],draws:=[(1,[0,1,0,4,0,0,32,112,0,256,1008,0,2048,0,8192,32767,0,131071],.op 0 (.op 2 (.op 5 (.op 6 (.op 8 (.op 11 (.op 13 (.ld 1 (.ld 3 (.ld 9 (.ld 12 (.ld 14 (.alt 4 (.alt 7 (.alt 10 (.op 15 (.alt 16 (.alt 17 (.done) (.done)) (.done))) (.alt 16 (.alt 10 (.op 15 (.alt 17 (.done) (.done))) (.done)) (.done))) (.alt 16 (.alt 7 (.alt 10 (.op 15 (.alt 17 (.done) (.done))) (.done)) (.done)) (.done))) (.alt 16 (.alt 4 (.alt 7 (.alt 10 (.op 15 (.alt 17 (.done) (.done))) (.done)) (.done)) (.done)) (.done)))))))))))))))]} Tryz.func200 (hvc:=?_)),
 (fun q0=>Zf Zq (Zd q0 Zk) mixed {loops:=[(0,[.reg 5 (.dat Iq)])]} Tryz.func341 (hvc:=?_)),
 (Zf Zq Zk mixed {loops:=[(0,[.reg 5 (.dat Iq)])]} Tryz.func339 (hvc:=?_)),
 (fun q0=>Zf Zq (Zd q0 Zk) mixed {loops:=[(0,[.reg 3 (.dat Iq)]),(2,[.reg 4 (.dat Iq)])],draws:=[(9,[0,0,3,7,0,0,48,112,255],.op 0 (.op 1 (.op 2 (.op 3 (.op 4 (.op 5 (.op 6 (.op 7 (.op 8 (.done))))))))))]} Tryz.func236 (hvc:=?_)),
 (fun q0=>Zf Xa (Zd q0 Zk) mixed {loops:=[(0,[.reg 4 (.dat Iq),.cello 1003 0 (.ol 219 (Zb9))])],draws:=[(1,[0,0,2,7,0,0,32,127,255,0,1023],.op 1 (.op 2 (.op 5 (.ld 6 (.alt 0 (.alt 3 (.alt 4 (.alt 7 (.op 8 (.alt 9 (.alt 10 (.done) (.done)) (.done))) (.alt 9 (.alt 7 (.op 8 (.alt 10 (.done) (.done))) (.done)) (.done))) (.alt 9 (.alt 4 (.alt 7 (.op 8 (.alt 10 (.done) (.done))) (.done)) (.done)) (.done))) (.alt 4 (.alt 3 (.alt 7 (.op 8 (.alt 9 (.alt 10 (.done) (.done)) (.done))) (.alt 9 (.alt 7 (.op 8 (.alt 10 (.done) (.done))) (.done)) (.done))) (.alt 9 (.alt 3 (.alt 7 (.op 8 (.alt 10 (.done) (.done))) (.done)) (.done)) (.done))) (.alt 9 (.alt 3 (.alt 4 (.alt 7 (.op 8 (.alt 10 (.done) (.done))) (.done)) (.done)) (.alt 4 (.alt 3 (.alt 7 (.op 8 (.alt 10 (.done) (.done))) (.done)) (.done)) (.done))) (.done)))) (.alt 4 (.alt 0 (.alt 3 (.alt 7 (.op 8 (.alt 9 (.alt 10 (.done) (.done)) (.done))) (.alt 9 (.alt 7 (.op 8 (.alt 10 (.done) (.done))) (.done)) (.done))) (.alt 9 (.alt 3 (.alt 7 (.op 8 (.alt 10 (.done) (.done))) (.done)) (.done)) (.done))) (.alt 9 (.alt 0 (.alt 3 (.alt 7 (.op 8 (.alt 10 (.done) (.done))) (.done)) (.done)) (.done)) (.done))) (.alt 9 (.alt 0 (.alt 3 (.alt 4 (.alt 7 (.op 8 (.alt 10 (.done) (.done))) (.done)) (.done)) (.alt 4 (.alt 3 (.alt 7 (.op 8 (.alt 10 (.done) (.done))) (.done)) (.done)) (.done))) (.alt 4 (.alt 0 (.alt 3 (.alt 7 (.op 8 (.alt 10 (.done) (.done))) (.done)) (.done)) (.done)) (.done))) (.done))))))))]} Tryz.func112 (hvc:=?_)),
 (fun q0=>Zf Zq (Zd q0 Zk) mixed {loops:=[(0,[.reg 5 (.own (.ol 2 (.flat Iq))),.reg 7 (.dat Iq)])]} Tryz.func169 (hvc:=?_)),
 (fun q0 q2 q1=>Zf Xa (Zd q0 (Zd q2 (Zd q1 Zk))) mixed {loops:=[(0,[.reg 4 (.dat Iq),.cello 1003 4 (.ol 86 (Zl3))])],draws:=[(1,[0,1,3,0,8,31,63,0,255],.op 0 (.op 1 (.op 3 (.op 4 (.alt 2 (.alt 5 (.op 6 (.alt 7 (.alt 8 (.done) (.done)) (.done))) (.alt 7 (.alt 5 (.op 6 (.alt 8 (.done) (.done))) (.done)) (.done))) (.alt 7 (.alt 2 (.alt 5 (.op 6 (.alt 8 (.done) (.done))) (.done)) (.done)) (.done))))))),(5,[0,1,0,4,0,28,60,124,252,511,1023,2047],.op 0 (.op 1 (.op 2 (.op 3 (.op 4 (.op 5 (.op 6 (.alt 7 (.alt 8 (.alt 9 (.op 10 (.alt 11 (.done) (.done))) (.done)) (.done)) (.done)))))))))]} Tryz.func51 (hvc:=?_)),
 (Zf Zq Zk mixed {} Tryz.func340 (hvc:=?_)),
 (fun q0=>Zf Zq (Zd q0 Zk) mixed {} Tryz.func171 (hvc:=?_)),
 (fun q0=>Zf Zq (Zd q0 Zk) mixed {loops:=[(0,[.reg 5 (.own (.ol 2 (.flat Iq))),.reg 8 (.dat Iq)])]} Tryz.func223 (hvc:=?_)),
 (fun q1 q0=>Zf Xa (Zd q1 (Zd q0 Zk)) mixed {loops:=[(0,[.reg 6 (.own (.ol 150 (.flat (XF)))),.reg 7 (.dat Iq)]),(2,[.reg 9 (.own (.ol 155 (ZaM))),.reg 10 (.dat (.bool)),.reg 11 (.dat Iq)])],draws:=[(20,[0,0,2,0,14,0,32,0,254,0,0,2047,0,4095,16383],.op 0 (.op 1 (.op 2 (.op 3 (.op 5 (.op 6 (.op 7 (.op 9 (.op 10 (.op 12 (.alt 4 (.alt 8 (.op 11 (.alt 13 (.op 14 (.done)) (.done))) (.done)) (.done))))))))))))]} Tryz.func49 (hvc:=?_)),
 (fun q0=>Zf Zq (Zd q0 Zk) mixed {} Tryz.func154 (hvc:=?_)),
 (fun q0 q2 q1=>Zf Xa (Zd q0 (Zd q2 (Zd q1 Zk))) mixed {draws:=[(4,[0,0,3,0,0,0,55,119,255,511,1023],.op 0 (.op 1 (.op 4 (.op 5 (.alt 2 (.alt 3 (.alt 6 (.alt 7 (.alt 8 (.alt 9 (.op 10 (.done)) (.done)) (.done)) (.done)) (.done)) (.alt 6 (.alt 3 (.alt 7 (.alt 8 (.alt 9 (.op 10 (.done)) (.done)) (.done)) (.done)) (.alt 7 (.alt 3 (.alt 8 (.alt 9 (.op 10 (.done)) (.done)) (.done)) (.done)) (.done))) (.done))) (.alt 3 (.alt 2 (.alt 6 (.alt 7 (.alt 8 (.alt 9 (.op 10 (.done)) (.done)) (.done)) (.done)) (.done)) (.done)) (.done)))))))]} Tryz.func79 (hvc:=?_))⟩
 all_goals
  intro a
  repeat rcases a with ⟨_,a⟩
  rintro K ⟨r,h,hK⟩
  repeat'
    conv=>whnf
    first
    | with_reducible refine ZvK ?_
    | with_reducible refine ZeS (by assumption) (by assumption) (by assumption) ?_
    | with_reducible refine QO (by assumption) ?_
    | with_reducible refine ZeX (by assumption) ?_
    | (with_reducible refine shD ?_);first | refine ZsV h (fun h=>?_) (fun h=>?_) | refine Zvc h (fun h=>?_) (fun h=>?_)
    | (with_reducible refine Zvw ?_);first | refine Zzx ?_ | refine Zs3 ?_
    | (with_reducible refine ZAC ?_);first | refine ZuI h (fun h=>?_) (fun h=>?_) | refine Zvv h (fun h=>?_) (fun h=>?_)
    | (with_reducible refine Zva ?_);(refine ⟨fun hd=>?_,?_⟩)<;>try subst hd
    | (with_reducible refine ZAt ?_);first | with_reducible refine Zc5 h (fun x hb h=>?_) | refine ZeX (by assumption) ?_ | with_reducible refine pG h (fun hp h=>?_) | with_reducible refine pA h (fun x ha hb hx h=>?_) | with_reducible refine pB h (fun x hb h=>?_) | refine Zc5 h (fun x hb h=>?_)
    | (with_reducible refine ZAA ?_);first | with_reducible refine vAt h (fun x ha hb hx h=>?_) | refine ZeS (by assumption) (by assumption) (by assumption) ?_ | with_reducible refine pG h (fun hp h=>?_) | with_reducible refine pA h (fun x ha hb hx h=>?_) | with_reducible refine pB h (fun x hb h=>?_) | refine vAt h (fun x ha hb hx h=>?_)
    | (with_reducible refine ZvL ?_);first | with_reducible refine Zok h (fun x hb h=>?_) | refine QO (by assumption) ?_ | with_reducible refine pG h (fun hp h=>?_) | with_reducible refine pA h (fun x ha hb hx h=>?_) | with_reducible refine pB h (fun x hb h=>?_) | refine Zok h (fun x hb h=>?_)
    | with_reducible refine ZAF ?_
    | (with_reducible refine ZqE ?_);refine ZqA h hK ?_;clear h hK;intro I μ v r h hK;(repeat rcases v with ⟨_,v⟩);(try dsimp only at h)
    | with_reducible refine ⟨by assumption,?_⟩
    | with_reducible refine orL ?_
    | with_reducible refine .inr ?_
    | (with_reducible refine ZvB ?_);first | refine ⟨?_,True.intro⟩ | refine ⟨?_,?_⟩
    | refine ⟨by kernel_rfl,?_⟩
    | refine ⟨by decide,?_⟩
    | with_reducible refine ZpS h (fun hp h=>?_)
    | intro fp
    | exact trivial
    | with_reducible exact Zvu h
    | (refine pS h (fun e=>?_));subst e;(repeat (first | exact hK | exact ⟨⟨rfl,rfl⟩,hK.1 _ rfl⟩ | (refine pR hK (fun e hK=>?_));subst e));done
    | refine ZpS h (fun hp h=>?_)
    | refine ⟨by assumption,?_⟩
    | with_reducible refine pG h (fun hp h=>?_) | with_reducible refine pA h (fun x ha hb hx h=>?_) | with_reducible refine pB h (fun x hb h=>?_)
    | refine pG h (fun hp h=>?_)
    | fail
theorem ZRI (q0:Sq 209 ZBV) (q2:Sq 210 ZDC) (q1:Sq 211 ZAL) (q3:Sq 128 ZC4):Sq 123 ZBF:=by
 refine Zf Xa (Zd q0 (Zd q2 (Zd q1 (Zd q3 Zk)))) mixed {loops:=[(0,[.reg 19 (.dat Iq),.splt 1300 219 (Zb9)])],draws:=[(1,[0,1,3,0,8,31,0,64,255,511,0,2047],.op 0 (.op 1 (.op 3 (.op 4 (.op 6 (.op 7 (.alt 2 (.alt 5 (.alt 8 (.op 9 (.alt 10 (.alt 11 (.done) (.done)) (.done))) (.alt 10 (.alt 8 (.op 9 (.alt 11 (.done) (.done))) (.done)) (.done))) (.alt 10 (.alt 5 (.alt 8 (.op 9 (.alt 11 (.done) (.done))) (.done)) (.done)) (.done))) (.alt 10 (.alt 2 (.alt 5 (.alt 8 (.op 9 (.alt 11 (.done) (.done))) (.done)) (.done)) (.done)) (.done))))))))),(5,[0,1,0,0,8,24,63,127,255],.op 0 (.op 1 (.op 2 (.op 3 (.op 4 (.alt 5 (.op 6 (.op 7 (.alt 8 (.done) (.done)))) (.done)))))))]} (fn:=Tryz.f123) Tryz.func123 (by kernel_rfl) (by kernel_rfl) ?_
 rintro ⟨d0,⟨⟩⟩ K ⟨r,h,hK⟩
 change Vp d0=some r at h
 unfold Vp at h
 focus
  conv=>whnf
  refine ⟨by kernel_rfl,?_⟩
  conv=>whnf
  obtain ⟨Instance0,hb0,h⟩:=Option.bind_eq_some_iff.1 h
  obtain ⟨string0,hb1,h⟩:=Option.bind_eq_some_iff.1 h
  obtain ⟨Port0,hb2,h⟩:=Option.bind_eq_some_iff.1 h
  refine ⟨?_,?_⟩
  rotate_left
  focus
   conv=>whnf
   refine ⟨_,hb0,?_⟩
   conv=>whnf
   refine ⟨_,hb1,?_⟩
   conv=>whnf
   refine ⟨_,hb2,?_⟩
   conv=>whnf
   refine ⟨trivial,?_⟩
  rotate_right
  focus
   conv=>whnf
   refine ⟨_,hb0,?_⟩
   conv=>whnf
   refine ⟨?_,?_⟩
   rotate_left
   focus
    conv=>whnf
    refine ⟨_,hb1,?_⟩
    conv=>whnf
    refine ⟨_,hb2,?_⟩
    conv=>whnf
    refine ⟨trivial,?_⟩
   rotate_right
   focus
    conv=>whnf
    refine ⟨_,hb1,?_⟩
    conv=>whnf
    refine ⟨?_,?_⟩
    rotate_left
    focus
     conv=>whnf
     refine ⟨_,hb2,?_⟩
     conv=>whnf
     refine ⟨trivial,?_⟩
    rotate_right
    focus
     conv=>whnf
     refine ⟨_,hb2,?_⟩
     conv=>whnf
     refine ⟨trivial,?_⟩
  all_goals
   conv=>whnf
   refine ZyY h ?_
   rintro I3 μ3 ⟨v0,l0,⟨⟩⟩ zs3 h hI3 hR3
   change Qg Instance0 string0 Port0 v0 l0=some zs3 at h
   unfold Qg at h
   conv=>whnf
   intro fp4
   conv=>whnf
   refine ZsV h (fun h=>?_) (fun h=>?_)
   conv=>whnf
   refine vAt h (fun x0 he5a he5b he5x h=>?_)
   conv=>whnf
   refine ZpS h (fun hp6 h=>?_)
   conv=>whnf
   refine ⟨he5a,he5b,QO he5x ?_⟩
   conv=>whnf
   refine ⟨by kernel_rfl,?_⟩
   conv=>whnf
   refine Zc5 h (fun int64_0 hb7 h=>?_)
   conv=>whnf
   refine ⟨he5a,he5b,QO he5x ?_⟩
   conv=>whnf
   refine ZpS h (fun hp8 h=>?_)
   conv=>whnf
   refine vAt h (fun x1 he9a he9b he9x h=>?_)
   conv=>whnf
   refine ⟨trivial,?_⟩
   conv=>whnf
   cases h
   exact ⟨⟨rfl,rfl⟩,hI3 _ rfl⟩
   conv=>whnf
   refine ZpS h (fun hp10 h=>?_)
   conv=>whnf
   cases h
   obtain rfl:=hR3 _ rfl
   exact hK
theorem ZHm (q0:Sq 206 ZCX) (q2:Sq 128 ZC4) (q1:Sq 207 ZDZ) (q3:Sq 208 ZDq):Sq 122 ZEj:=by
 refine Zf Xa (Zd q0 (Zd q2 (Zd q1 (Zd q3 Zk)))) mixed {loops:=[(0,[.reg 11 (.dat Iq),.cello 1003 0 (.ol 277 (Zoy))]),(2,[.reg 30 (.dat Iq),.splt 7 289 Zxz])],draws:=[(5,[0,1,3,0,8,31,31,127,255,511],.op 0 (.op 1 (.op 3 (.op 4 (.alt 2 (.op 6 (.alt 5 (.alt 7 (.op 8 (.alt 9 (.done) (.done))) (.done)) (.done))) (.done)))))),(10,[0,1,0,0,8,0,0,64,192,0,512,1984,4039,8135,16327,32767,65535,131071],.op 0 (.op 1 (.op 2 (.op 3 (.op 5 (.op 6 (.op 7 (.op 9 (.op 10 (.alt 4 (.alt 8 (.alt 11 (.op 12 (.op 13 (.alt 14 (.op 15 (.op 16 (.alt 17 (.done) (.done)))) (.done)))) (.done)) (.done)) (.alt 8 (.alt 4 (.alt 11 (.op 12 (.op 13 (.alt 14 (.op 15 (.op 16 (.alt 17 (.done) (.done)))) (.done)))) (.done)) (.alt 11 (.op 12 (.op 13 (.alt 4 (.alt 14 (.op 15 (.op 16 (.alt 17 (.done) (.done)))) (.done)) (.alt 14 (.alt 4 (.op 15 (.op 16 (.alt 17 (.done) (.done)))) (.done)) (.done))))) (.done))) (.done))))))))))))]} (fn:=Tryz.f122) Tryz.func122 (by kernel_rfl) (by kernel_rfl) ?_
 rintro ⟨l0,⟨⟩⟩ K ⟨r,h,hK⟩
 change Vq l0=some r at h
 unfold Vq at h
 conv=>whnf
 refine ZyY h ?_
 rintro I0 μ0 ⟨v0,c0,⟨⟩⟩ zs0 h hI0 hR0
 change XC l0 v0 c0=some zs0 at h
 unfold XC at h
 conv=>whnf
 intro fp1
 conv=>whnf
 refine ZsV h (fun h=>?_) (fun h=>?_)
 conv=>whnf
 refine vAt h (fun x0 he2a he2b he2x h=>?_)
 conv=>whnf
 refine ⟨by kernel_rfl,?_⟩
 conv=>whnf
 refine Zc5 h (fun Pin0 hb3 h=>?_)
 conv=>whnf
 refine Zc5 h (fun int64_0 hb4 h=>?_)
 conv=>whnf
 refine ⟨trivial,?_⟩
 conv=>whnf
 refine Zc5 h (fun Arc0 hb5 h=>?_)
 conv=>whnf
 refine ZyY h ?_
 rintro I6 μ6 ⟨v1,l1,⟨⟩⟩ zs6 h hI6 hR6
 change Qi v0 c0 x0 Pin0 int64_0 Arc0 v1 l1=some zs6 at h
 unfold Qi at h
 conv=>whnf
 intro fp7
 conv=>whnf
 refine ZsV h (fun h=>?_) (fun h=>?_)
 focus
  conv=>whnf
  refine vAt h (fun x1 he8a he8b he8x h=>?_)
  conv=>whnf
  refine ZpS h (fun hp9 h=>?_)
  conv=>whnf
  refine ⟨he8a,he8b,QO he8x ?_⟩
  conv=>whnf
  refine ⟨by kernel_rfl,?_⟩
  conv=>whnf
  obtain ⟨cloneTables0,hb10,h⟩:=Option.bind_eq_some_iff.1 h
  obtain ⟨cloneTables1,hb12,h⟩:=Option.bind_eq_some_iff.1 h
  obtain ⟨hp14,h⟩:=guardE h
  obtain ⟨x2,he15a,he15b,he15x,h⟩:=atE h
  refine ⟨?_,?_⟩
  rotate_left
  focus
   conv=>whnf
   refine ⟨_,hb10,?_⟩
   conv=>whnf
   intro fp16
   conv=>whnf
   refine ⟨?_,?_⟩
   rotate_left
   focus
    conv=>whnf
    refine ⟨_,hb12,?_⟩
    conv=>whnf
    intro fp17
    conv=>whnf
    refine ⟨he8a,he8b,QO he8x ?_⟩
    conv=>whnf
    refine ⟨?_,?_⟩
    rotate_left
    focus
     conv=>whnf
     refine ⟨hp14,?_⟩
     conv=>whnf
     refine ⟨he15a,he15b,QO he15x ?_⟩
     conv=>whnf
     refine ⟨he8a,he8b,QO he8x ?_⟩
     conv=>whnf
     refine ⟨hp14,?_⟩
     conv=>whnf
     refine ⟨trivial,?_⟩
    rotate_right
    focus
     conv=>whnf
     refine ⟨hp14,?_⟩
     conv=>whnf
     refine ⟨he15a,he15b,QO he15x ?_⟩
     conv=>whnf
     refine ⟨he8a,he8b,QO he8x ?_⟩
     conv=>whnf
     refine ⟨hp14,?_⟩
     conv=>whnf
     refine ⟨trivial,?_⟩
   rotate_right
   focus
    conv=>whnf
    refine ⟨_,hb12,?_⟩
    conv=>whnf
    intro fp17
    conv=>whnf
    refine ⟨he8a,he8b,QO he8x ?_⟩
    conv=>whnf
    refine ⟨hp14,?_⟩
    conv=>whnf
    refine ⟨he15a,he15b,QO he15x ?_⟩
    conv=>whnf
    refine ⟨he8a,he8b,QO he8x ?_⟩
    conv=>whnf
    refine ⟨hp14,?_⟩
    conv=>whnf
    refine ⟨trivial,?_⟩
  rotate_right
  focus
   conv=>whnf
   refine ⟨_,hb10,?_⟩
   conv=>whnf
   intro fp16
   conv=>whnf
   refine ⟨_,hb12,?_⟩
   conv=>whnf
   intro fp17
   conv=>whnf
   refine ⟨he8a,he8b,QO he8x ?_⟩
   conv=>whnf
   refine ⟨hp14,?_⟩
   conv=>whnf
   refine ⟨he15a,he15b,QO he15x ?_⟩
   conv=>whnf
   refine ⟨he8a,he8b,QO he8x ?_⟩
   conv=>whnf
   refine ⟨hp14,?_⟩
   conv=>whnf
   refine ⟨trivial,?_⟩
  all_goals
   conv=>whnf
   cases h
   exact ⟨⟨rfl,rfl⟩,hI6 _ rfl⟩
 conv=>whnf
 refine ZpS h (fun hp18 h=>?_)
 conv=>whnf
 intro fp19
 conv=>whnf
 refine ZpS h (fun hp20 h=>?_)
 conv=>whnf
 intro fp21
 conv=>whnf
 cases h
 obtain rfl:=hR6 _ rfl
 exact ⟨⟨rfl,rfl⟩,hI0 _ rfl⟩
 conv=>whnf
 cases h
 obtain rfl:=hR0 _ rfl
 exact hK
end Go.Proofs.YthkhedimjmkifaaGreatDoor
