/-
  The functions keep their contracts, if what they call does. Printed by program.
-/
import Derived.Test.YthkhedimjmkifaaGreatDoorM
import Derived.KernelRfl
namespace Go.Proofs.YthkhedimjmkifaaGreatDoor
open Go Go.Sx
set_option maxRecDepth 100000
set_option maxHeartbeats 3200000
set_option linter.unusedVariables false
set_option linter.unusedSimpArgs false
structure Ws0:Prop where
 w184:Sq 248 ZB9
 w255:Sq 159 ZEf→Sq 164 ZCA
 w191:Sq 250 ZDW→Sq 182 ZDu
 w194:Sq 245 c130→Sq 293 c194
 w231:Sq 306 ZDv→Sq 269 ZEq
 w180:Sq 159 ZEf
 w262:Sq 97 c183→Sq 100 c234→Sq 158 ZEk
 w270:Sq 11 ZzO→Sq 85 ZEV→Sq 86 ZET→Sq 88 ZDQ→Sq 87 ZEt→Sq 32 ZEu
 w223:Sq 245 c130→Sq 263 ZE3→Sq 262 c222→Sq 159 ZEf→Sq 254 c198→Sq 264 ZEJ→Sq 242 c171→Sq 180 c138→Sq 193 ZD3
 w219:Sq 263 ZE3
 w240:Sq 230 ZEg→Sq 159 ZEf→Sq 196 ZDz
 w259:Sq 60 ZD7→Sq 196 ZDz→Sq 195 ZDR→Sq 86 ZET→Sq 39 c218→Sq 101 ZEa
 w183:Sq 177 ZBY→Sq 159 ZEf→Sq 178 c182→Sq 97 c183
 w197:Sq 251 c196→Sq 252 ZzS→Sq 184 ZFh
 w179:Sq 239 c167→Sq 240 c168→Sq 241 c175→Sq 242 c171→Sq 243 ZEw→Sq 177 ZBY
 w176:Sq 244 ZEE
 w167:Sq 288 ZCb→Sq 252 ZzS→Sq 239 c167
 w261:Sq 39 c218→Sq 40 ZE9→Sq 11 ZzO
 w218:Sq 97 c183→Sq 98 ZEp→Sq 99 ZEF→Sq 39 c218
 w204:Sq 296 c203→Sq 255 ZEi
 w263:Sq 158 ZEk→Sq 39 c218→Sq 101 ZEa→Sq 85 ZEV
 w242:Sq 272 ZEr→Sq 195 ZDR
 w181:Sq 245 c130→Sq 246 ZCL
 w224:Sq 301 ZCw
 w196:Sq 245 c130→Sq 293 c194→Sq 294 ZA5→Sq 251 c196
 w131:Sq 245 c130→Sq 302 Zkp→Sq 303 ZfL→Sq 267 c131
 w203:Sq 245 c130→Sq 296 c203
 w169:Sq 264 ZEJ
 w215:Sq 261 ZCc
 w198:Sq 254 c198
 w222:Sq 299 ZEA→Sq 262 c222
 w209:Sq 254 c198→Sq 247 ZEP→Sq 258 c208→Sq 259 c143→Sq 191 ZC8
 w210:Sq 191 ZC8→Sq 190 c210
 w297:Sq 136 ZPZ
 w300:Sq 89 ZES→Sq 33 ZP1
 w301:Sq 33 ZP1→Sq 41 ZP2
 w296:Sq 135 ZPY→Sq 66 ZPA
 w293:Sq 215 ZPX→Sq 134 ZPv
 w294:Sq 134 ZPv→Sq 65 ZPz
 w281:Sq 166 ZEG→Sq 213 ZCK
 w273:Sq 166 ZEG
 w299:Sq 64 ZPW→Sq 65 ZPz→Sq 66 ZPA→Sq 67 ZP0→Sq 20 ZPH
 w292:Sq 215 ZPX
 w274:Sq 166 ZEG→Sq 355 ZEd
 w275:Sq 355 ZEd→Sq 338 ZB1
 w287:Sq 166 ZEG→Sq 89 ZES
 w288:Sq 89 ZES→Sq 63 ZFc
 w340:Sq 142 ZP3→Sq 149 ZQp
 w331:Sq 142 ZP3→Sq 150 ZQj→Sq 219 ZPE
 w326:Sq 150 ZQj
 w325:Sq 142 ZP3→Sq 281 ZPM
 w327:Sq 150 ZQj→Sq 314 ZQk
 w316:Sq 142 ZP3→Sq 71 ZQc
 w313:Sq 138 ZP6→Sq 139 ZP7→Sq 140 ZP8→Sq 69 ZP9
 w321:Sq 142 ZP3→Sq 141 ZPI→Sq 75 ZQg
 w317:Sq 72 ZPK
 w310:Sq 142 ZP3→Sq 141 ZPI→Sq 138 ZP6
 w304:Sq 142 ZP3→Sq 216 ZPB
 w306:Sq 141 ZPI→Sq 280 ZPJ
 w323:Sq 141 ZPI→Sq 90 ZQi
 w5:Sq 336 c4→Sq 308 c5
 w18:Sq 42 c9→Sq 43 c15→Sq 44 c17→Sq 13 c18
 w19:Sq 106 c19
 w25:Sq 108 c24→Sq 48 c25
 w27:Sq 83 c16→Sq 29 c27
 w28:Sq 29 c27→Sq 35 c28
 w21:Sq 46 c21
 w2:Sq 156 c2
 w9:Sq 102 c8→Sq 42 c9
 w0:Sq 307 c0
 w16:Sq 156 c2→Sq 83 c16
 w36:Sq 311 c35→Sq 277 c36
 w57:Sq 121 c56→Sq 58 c57
 w45:Sq 115 c41→Sq 116 c42→Sq 117 c44→Sq 53 c45
 w60:Sq 31 c59→Sq 38 c60
 w40:Sq 157 c32→Sq 203 c40
 w41:Sq 203 c40→Sq 115 c41
 w32:Sq 157 c32
 w58:Sq 55 c50→Sq 56 c53→Sq 57 c55→Sq 58 c57→Sq 17 c58
 w51:Sq 205 c51
 w42:Sq 116 c42
 w237:Sq 127 ZCF
 w247:Sq 209 ZEj
 w243:Sq 206 ZEs
 w249:Sq 211 ZDC
 w186:Sq 128 ZBT
 w248:Sq 210 ZBV
 w202:Sq 253 c201→Sq 185 ZE2
 w158:Sq 345 c157→Sq 361 ZEK
 w229:Sq 305 c228→Sq 304 c229
 w265:Sq 233 ZEU→Sq 232 ZDt
 w75:Sq 234 c72→Sq 235 c73→Sq 236 c74→Sq 167 c75
 w88:Sq 91 c79→Sq 175 c87→Sq 172 c63→Sq 95 c88
 w126:Sq 36 c91→Sq 37 ZEe→Sq 9 ZDw
 w98:Sq 339 c97→Sq 318 c98
 w70:Sq 322 c70
 w110:Sq 201 c107→Sq 275 c109→Sq 200 ZEI
 w97:Sq 339 c97
 w74:Sq 237 c62→Sq 236 c74
 w112:Sq 201 c107→Sq 112 ZEQ
 w117:Sq 286 c117
 w114:Sq 111 ZFb→Sq 112 ZEQ→Sq 113 ZA2→Sq 51 ZEl
 w113:Sq 201 c107→Sq 113 ZA2
 w121:Sq 51 ZEl→Sq 94 c76→Sq 224 c119→Sq 225 ZEO→Sq 226 ZAy→Sq 227 c116→Sq 228 ZBv→Sq 113 ZA2→Sq 152 ZCu
 w99:Sq 340 c99
 w116:Sq 227 c116
 w100:Sq 316 c95→Sq 169 c77→Sq 340 c99→Sq 319 ZDO
 w101:Sq 94 c76→Sq 315 c94→Sq 316 c95→Sq 237 c62→Sq 317 c96→Sq 318 c98→Sq 319 ZDO→Sq 169 c77→Sq 168 c78→Sq 285 ZC2
 w80:Sq 237 c62→Sq 172 c63→Sq 170 c80
 w87:Sq 238 c86→Sq 172 c63→Sq 175 c87
 w103:Sq 94 c76→Sq 223 ZE1
set_option maxHeartbeats 100000000 in
theorem ws0:Ws0:=by
 refine ⟨(Zf Zq Zk mixed {} Tryz.func248 (hvc:=?_)),
 (fun q0=>Zf Xa (Zd q0 Zk) mixed {loops:=[(0,[.reg 13 (.dat Iq),.ent 4 (nat_lit 86) (Dp.pair (Dp.ol (2:Go.TypeId) (Dp.flat (Ty.int IntKind.i64))) (Dp.pair (Dp.ol (2:Go.TypeId) (Dp.flat (Ty.int IntKind.i64))) (Dp.pair (Dp.ol (2:Go.TypeId) (Dp.flat (Ty.int IntKind.i64))) (Dp.pair (Dp.ol (2:Go.TypeId) (Dp.flat (Ty.int IntKind.i64))) (Dp.flat Ty.unit)))))]),(2,[.reg 30 (.dat Iq),.ent 4 (nat_lit 86) (Dp.pair (Dp.ol (2:Go.TypeId) (Dp.flat (Ty.int IntKind.i64))) (Dp.pair (Dp.ol (2:Go.TypeId) (Dp.flat (Ty.int IntKind.i64))) (Dp.pair (Dp.ol (2:Go.TypeId) (Dp.flat (Ty.int IntKind.i64))) (Dp.pair (Dp.ol (2:Go.TypeId) (Dp.flat (Ty.int IntKind.i64))) (Dp.flat Ty.unit)))))])],draws:=[(9,[0,1,3,7,0,16,63,127],.op 0 (.op 1 (.op 2 (.op 3 (.op 4 (.op 5 (.op 6 (.op 7 (.done))))))))),(10,[0,0,2,6,14,0,0,64,0,256,960,2016,4064,8190,16383,32767,65535],.op 0 (.op 1 (.op 2 (.op 3 (.op 5 (.op 6 (.op 7 (.op 8 (.op 9 (.op 10 (.alt 4 (.alt 11 (.alt 12 (.alt 13 (.op 14 (.op 15 (.alt 16 (.done) (.done)))) (.done)) (.done)) (.done)) (.alt 11 (.alt 4 (.alt 12 (.alt 13 (.op 14 (.op 15 (.alt 16 (.done) (.done)))) (.done)) (.done)) (.alt 12 (.alt 4 (.alt 13 (.op 14 (.op 15 (.alt 16 (.done) (.done)))) (.done)) (.done)) (.done))) (.done)))))))))))))]} Tryz.func164 (hvc:=?_)),
 (fun q0=>Zf Zq (Zd q0 Zk) mixed {loops:=[(0,[.reg 6 (.own (.ol 2 (.flat Iq))),.reg 19 (.dat Iq)])]} Tryz.func182 (hvc:=?_)),
 (fun q0=>Zf Zq (Zd q0 Zk) mixed {} Tryz.func293 (hvc:=?_)),
 (fun q0=>Zf Zq (Zd q0 Zk) mixed {} Tryz.func269 (hvc:=?_)),
 (Zf Zq Zk mixed {loops:=[(0,[.reg 3 (.own (.ol 221 (.flat (Zkh)))),.reg 13 (.dat Iq)]),(2,[.reg 3 (.own (.ol 221 (.flat (Zkh)))),.reg 21 (.dat Iq)]),(4,[.reg 3 (.own (.ol 221 (.flat (Zkh)))),.reg 44 (.dat Iq)])]} Tryz.func159 (hvc:=?_)),
 (fun q1 q0=>Zf Zq (Zd q1 (Zd q0 Zk)) mixed {} Tryz.func158 (hvc:=?_)),
 (fun q3 q1 q2 q0 q4=>Zf Xa (Zd q3 (Zd q1 (Zd q2 (Zd q0 (Zd q4 Zk))))) mixed {draws:=[(6,[0,0,2,7,0,0,0,64,239,0,512,2031,4095,8191,16383],.op 0 (.op 1 (.op 2 (.op 4 (.op 5 (.op 6 (.op 7 (.op 9 (.op 10 (.alt 3 (.alt 8 (.alt 11 (.op 12 (.alt 13 (.op 14 (.done)) (.done))) (.done)) (.done)) (.done)))))))))))]} Tryz.func32 (hvc:=?_)),
 (fun q7 q5 q6 q2 q0 q1 q3 q4=>Zf Zq (Zd q7 (Zd q5 (Zd q6 (Zd q2 (Zd q0 (Zd q1 (Zd q3 (Zd q4 Zk)))))))) mixed {draws:=[(1,[0,1,3,7,15,31,31,95,255,511,1023],.op 0 (.op 1 (.alt 2 (.op 3 (.op 4 (.op 5 (.op 6 (.alt 7 (.alt 8 (.op 9 (.op 10 (.done))) (.done)) (.done)))))) (.done)))),(3,[0,1,0,4,12,28,60,127,255],.op 0 (.op 1 (.op 2 (.op 3 (.alt 4 (.alt 5 (.op 6 (.alt 7 (.op 8 (.done)) (.done))) (.done)) (.done)))))),(7,[0,1,3,7,3,19,51,115,243,511,1023,2047],.op 0 (.op 1 (.op 2 (.op 3 (.op 4 (.op 5 (.op 6 (.alt 7 (.op 8 (.alt 9 (.op 10 (.op 11 (.done))) (.done))) (.done))))))))),(9,[0,1,3,7,3,19,63,127,255,511,1023,511,2559,511,8703,31231,63999,129535,260607,522751,1048575,2097151,4194303],.op 0 (.op 1 (.op 2 (.op 3 (.op 4 (.op 5 (.alt 6 (.op 7 (.op 8 (.op 9 (.op 10 (.op 11 (.op 12 (.op 13 (.op 14 (.op 15 (.op 16 (.op 17 (.alt 18 (.op 19 (.alt 20 (.op 21 (.op 22 (.done))) (.done))) (.done))))))))))))) (.done))))))))]} Tryz.func193 (hvc:=?_)),
 (Zf Zq Zk mixed {} Tryz.func263 (hvc:=?_)),
 (fun q0 q1=>Zf Zq (Zd q0 (Zd q1 Zk)) mixed {loops:=[(0,[.reg 5 (.own (.ol 2 (.flat Iq))),.reg 19 (.dat Iq)])]} Tryz.func196 (hvc:=?_)),
 (fun q1 q0 q2 q3 q4=>Zf Xa (Zd q1 (Zd q0 (Zd q2 (Zd q3 (Zd q4 Zk))))) mixed {draws:=[(2,[0,0,3,7,15,31,63,63,255,63,1023,2047,4095],.op 0 (.op 1 (.alt 2 (.alt 3 (.op 4 (.op 5 (.op 6 (.op 7 (.op 9 (.alt 8 (.alt 10 (.op 11 (.op 12 (.done))) (.done)) (.done))))))) (.done)) (.done))))]} Tryz.func101 (hvc:=?_)),
 (fun q1 q0 q2=>Zf Zq (Zd q1 (Zd q0 (Zd q2 Zk))) mixed {loops:=[(0,[.reg 32 (.dat Iq),.ent 1 (nat_lit 2) (.flat Zvn.ety)]),(2,[.reg 50 (.dat Iq)])],draws:=[(13,[0,0,0,6,14,31,63],.op 0 (.op 1 (.op 2 (.op 3 (.op 4 (.alt 5 (.op 6 (.done)) (.done)))))))]} Tryz.func97 (hvc:=?_)),
 (fun q1 q0=>Zf Zq (Zd q1 (Zd q0 Zk)) mixed {loops:=[(0,[.reg 3 (.own (.ol 9 (.flat (.str)))),.reg 11 (.dat Iq)])]} Tryz.func184 (hvc:=?_)),
 (fun q4 q2 q1 q3 q0=>Zf Zq (Zd q4 (Zd q2 (Zd q1 (Zd q3 (Zd q0 Zk))))) mixed {loops:=[(0,[.reg 25 (.dat Iq),.ent 2 (nat_lit 3) (.flat ZtB.ety)]),(2,[.reg 51 (.dat Iq),.ent 2 (nat_lit 3) (.flat ZtB.ety)])]} Tryz.func177 (hvc:=?_)),
 (Zf Zq Zk mixed {} Tryz.func244 (hvc:=?_)),
 (fun q1 q0=>Zf Zq (Zd q1 (Zd q0 Zk)) mixed {loops:=[(0,[.reg 3 (.own (.ol 9 (.flat (.str)))),.reg 9 (.dat Iq)])]} Tryz.func239 (hvc:=?_)),
 (fun q0 q1=>Zf Zq (Zd q0 (Zd q1 Zk)) mixed {} Tryz.func11 (hvc:=?_)),
 (fun q1 q2 q0=>Zf Zq (Zd q1 (Zd q2 (Zd q0 Zk))) mixed {draws:=[(1,[0,1,3,7,15,7,63,127,255],.op 0 (.alt 1 (.op 2 (.op 3 (.op 5 (.alt 4 (.alt 6 (.op 7 (.op 8 (.done))) (.done)) (.done))))) (.done)))]} Tryz.func39 (hvc:=?_)),
 (fun q0=>Zf Zq (Zd q0 Zk) mixed {} Tryz.func255 (hvc:=?_)),
 (fun q1 q2 q0=>Zf Xa (Zd q1 (Zd q2 (Zd q0 Zk))) mixed {} Tryz.func85 (hvc:=?_)),
 (fun q0=>Zf Xa (Zd q0 (ZAb (ZBC Xa Zk mixed {draws:=[(0,[0,0,0,4,12,30,62,127,255],.op 0 (.op 1 (.op 2 (.op 3 (.op 4 (.op 5 (.op 6 (.op 7 (.alt 8 (.done) (.done))))))))))]} Tryz.func271 (by kernel_rfl) (by kernel_rfl)) Zk)) mixed {loops:=[(0,[.reg 18 (.dat Iq),.ent 0 (nat_lit 150) (.flat XF),.cell 7 0 .bool]),(2,[.reg 36 (.dat Iq),.ent 1 (nat_lit 187) (.flat Yg),.cell 7 0 .bool]),(4,[.reg 54 (.dat Iq),.ent 2 (nat_lit 187) (.flat Yg),.cell 7 0 .bool]),(6,[.reg 72 (.dat Iq),.cell 7 0 (.bool),.ent 3 (nat_lit 155) (Dp.pair (Dp.flat (Ty.int IntKind.i64)) (Dp.pair (Dp.flat (Ty.int IntKind.i64)) (Dp.pair (Dp.ol (2:Go.TypeId) (Dp.flat (Ty.int IntKind.i64))) (Dp.pair (Dp.ol (2:Go.TypeId) (Dp.flat (Ty.int IntKind.i64))) (Dp.pair (Dp.ol (2:Go.TypeId) (Dp.flat (Ty.int IntKind.i64))) (Dp.flat Ty.unit))))))])]} Tryz.func195 (hvc:=?_)),
 (fun q0=>Zf Zq (Zd q0 Zk) mixed {loops:=[(0,[.reg 8 (.dat Iq)])]} Tryz.func246 (hvc:=?_)),
 (Zf Zq Zk mixed {} Tryz.func301 (hvc:=?_)),
 (fun q1 q0 q2=>Zf Zq (Zd q1 (Zd q0 (Zd q2 Zk))) mixed {} Tryz.func251 (hvc:=?_)),
 (fun q2 q1 q0=>Zf Zq (Zd q2 (Zd q1 (Zd q0 Zk))) mixed {} Tryz.func267 (hvc:=?_)),
 (fun q0=>Zf Zq (Zd q0 Zk) mixed {} Tryz.func296 (hvc:=?_)),
 (Zf Zq Zk mixed {} Tryz.func264 (hvc:=?_)),
 (Zf Zq Zk mixed {} Tryz.func261 (hvc:=?_)),
 (Zf Zq Zk mixed {} Tryz.func254 (hvc:=?_)),
 (fun q0=>Zf Zq (Zd q0 Zk) mixed {} Tryz.func262 (hvc:=?_)),
 (fun q0 q2 q3 q1=>Zf Zq (Zd q0 (Zd q2 (Zd q3 (Zd q1 Zk)))) mixed {loops:=[(0,[.reg 15 (.dat Iq)])]} Tryz.func191 (hvc:=?_)),
 (fun q0=>Zf Zq (Zd q0 Zk) mixed {} Tryz.func190 (hvc:=?_)),
 (Zf Zq Zk mixed {} Tryz.func136 (hvc:=?_)),
 (fun q0=>Zf Zq (Zd q0 Zk) mixed {} Tryz.func33 (hvc:=?_)),
 (fun q0=>Zf Zq (Zd q0 Zk) mixed {loops:=[(0,[.reg 5 (.dat Iq)])],draws:=[(6,[0,0,3,7,0,0,48,112,255,511],.op 0 (.op 1 (.op 2 (.op 3 (.op 4 (.op 5 (.op 6 (.op 7 (.alt 8 (.op 9 (.done)) (.done))))))))))]} Tryz.func41 (hvc:=?_)),
 (fun q0=>Zf Zq (Zd q0 Zk) mixed {loops:=[(0,[.reg 5 (.dat Iq)])],draws:=[(6,[0,0,3,7,0,0,48,112,255,511],.op 0 (.op 1 (.op 2 (.op 3 (.op 4 (.op 5 (.op 6 (.op 7 (.alt 8 (.op 9 (.done)) (.done))))))))))]} Tryz.func66 (hvc:=?_)),
 (fun q0=>Zf Zq (Zd q0 Zk) mixed {} Tryz.func134 (hvc:=?_)),
 (fun q0=>Zf Zq (Zd q0 Zk) mixed {loops:=[(0,[.reg 5 (.dat Iq)])],draws:=[(6,[0,0,3,7,0,0,48,112,255,511],.op 0 (.op 1 (.op 2 (.op 3 (.op 4 (.op 5 (.op 6 (.op 7 (.alt 8 (.op 9 (.done)) (.done))))))))))]} Tryz.func65 (hvc:=?_)),
 (fun q0=>Zf Zq (Zd q0 Zk) mixed {} Tryz.func213 (hvc:=?_)),
 (Zf Zq Zk mixed {loops:=[(0,[.reg 5 (.dat Iq)])],draws:=[(6,[0,0,3,7,0,0,48,112,255],.op 0 (.op 1 (.op 2 (.op 3 (.op 4 (.op 5 (.op 6 (.op 7 (.op 8 (.done))))))))))]} Tryz.func166 (hvc:=?_)),
 (fun q3 q1 q0 q2=>Zf Zq (Zd q3 (Zd q1 (Zd q0 (Zd q2 Zk)))) mixed {} Tryz.func20 (hvc:=?_)),
 (Zf Zq Zk mixed {} Tryz.func215 (hvc:=?_)),
 (fun q0=>Zf Zq (Zd q0 Zk) mixed {} Tryz.func355 (hvc:=?_)),
 (fun q0=>Zf Zq (Zd q0 Zk) mixed {loops:=[(0,[.reg 5 (.dat Iq)])],draws:=[(6,[0,0,3,7,0,0,48,112,255,511],.op 0 (.op 1 (.op 2 (.op 3 (.op 4 (.op 5 (.op 6 (.op 7 (.alt 8 (.op 9 (.done)) (.done))))))))))]} Tryz.func338 (hvc:=?_)),
 (fun q0=>Zf Zq (Zd q0 Zk) mixed {} Tryz.func89 (hvc:=?_)),
 (fun q0=>Zf Zq (Zd q0 Zk) mixed {loops:=[(0,[.reg 5 (.dat Iq)])],draws:=[(6,[0,0,3,7,0,0,48,112,255,511],.op 0 (.op 1 (.op 2 (.op 3 (.op 4 (.op 5 (.op 6 (.op 7 (.alt 8 (.op 9 (.done)) (.done))))))))))]} Tryz.func63 (hvc:=?_)),
 (fun q0=>Zf Zq (Zd q0 Zk) mixed {loops:=[(0,[.reg 1 (.dat Iq),.reg 5 (.dat Iq)])],draws:=[(4,[0,0,3,7,15,0,32,127],.op 0 (.op 1 (.op 2 (.op 3 (.op 4 (.op 5 (.alt 6 (.op 7 (.done)) (.done))))))))]} Tryz.func149 (hvc:=?_)),
 (fun q1 q0=>Zf Zq (Zd q1 (Zd q0 Zk)) mixed {loops:=[(0,[.reg 1 (.dat Iq),.reg 5 (.dat Iq)])],draws:=[(4,[0,0,3,7,15,0,32,127],.op 0 (.op 1 (.op 2 (.op 3 (.op 4 (.op 5 (.alt 6 (.op 7 (.done)) (.done))))))))]} Tryz.func219 (hvc:=?_)),
 (Zf Zq Zk mixed {loops:=[(0,[.reg 1 (.dat Iq),.reg 5 (.dat Iq)])]} Tryz.func150 (hvc:=?_)),
 (fun q0=>Zf Zq (Zd q0 Zk) mixed {loops:=[(0,[.reg 1 (.dat Iq),.reg 5 (.dat Iq)])],draws:=[(4,[0,0,3,7,15,0,32,127],.op 0 (.op 1 (.op 2 (.op 3 (.op 4 (.op 5 (.alt 6 (.op 7 (.done)) (.done))))))))]} Tryz.func281 (hvc:=?_)),
 (fun q0=>Zf Zq (Zd q0 Zk) mixed {loops:=[(0,[.reg 1 (.dat Iq),.reg 5 (.dat Iq)])]} Tryz.func314 (hvc:=?_)),
 (fun q0=>Zf Xa (Zd q0 Zk) mixed {loops:=[(0,[.reg 1 (.dat Iq),.reg 5 (.dat Iq),.ent 0 (nat_lit 150) (.flat XF)])]} Tryz.func71 (hvc:=?_)),
 (fun q0 q1 q2=>Zf Xa (Zd q0 (Zd q1 (Zd q2 Zk))) mixed {} Tryz.func69 (hvc:=?_)),
 (fun q1 q0=>Zf Xa (Zd q1 (Zd q0 Zk)) mixed {loops:=[(0,[.reg 1 (.dat Iq),.reg 5 (.dat Iq),.ent 0 (nat_lit 88) (Dp.pair (Dp.flat (Ty.int IntKind.i64)) (Dp.pair (Dp.flat (Ty.int IntKind.i64)) (Dp.pair (Dp.flat (Ty.int IntKind.i64)) (Dp.pair (Dp.flat (Ty.int IntKind.i64)) (Dp.pair (Dp.flat (Ty.int IntKind.i64)) (Dp.pair (Dp.flat Ty.str) (Dp.pair Zl3 (Dp.flat Ty.unit))))))))])]} Tryz.func75 (hvc:=?_)),
 (Zf Xa Zk mixed {loops:=[(0,[.reg 1 (.dat Iq),.reg 5 (.dat Iq),.ent 0 (nat_lit 187) (.flat Yg)])]} Tryz.func72 (hvc:=?_)),
 (fun q1 q0=>Zf Xa (Zd q1 (Zd q0 Zk)) mixed {loops:=[(0,[.reg 1 (.dat Iq),.reg 5 (.dat Iq),.ent 0 (nat_lit 219) (Dp.pair (Dp.flat Ty.str) (Dp.pair (Dp.flat (Ty.int IntKind.i64)) (Dp.pair (Dp.ol (2:Go.TypeId) (Dp.flat (Ty.int IntKind.i64))) (Dp.flat Ty.unit))))])]} Tryz.func138 (hvc:=?_)),
 (fun q0=>Zf Xa (Zd q0 Zk) mixed {loops:=[(0,[.reg 1 (.dat Iq),.reg 5 (.dat Iq),.ent 0 (nat_lit 285) (.flat ZgP)])]} Tryz.func216 (hvc:=?_)),
 (fun q0=>Zf Xa (Zd q0 Zk) mixed {loops:=[(0,[.reg 1 (.dat Iq),.reg 5 (.dat Iq),.ent 0 (nat_lit 341) (Dp.pair (Dp.ol (2:Go.TypeId) (Dp.flat (Ty.int IntKind.i64))) (Dp.pair (Dp.ol (2:Go.TypeId) (Dp.flat (Ty.int IntKind.i64))) (Dp.pair (Dp.ol (2:Go.TypeId) (Dp.flat (Ty.int IntKind.i64))) (Dp.flat Ty.unit))))])]} Tryz.func280 (hvc:=?_)),
 (fun q0=>Zf Xa (Zd q0 Zk) mixed {} Tryz.func90 (hvc:=?_)),
 (fun q0=>Zf Zq (Zd q0 Zk) mixed {} Tryz.func308 (hvc:=?_)),
 (fun q0 q1 q2=>Zf Zq (Zd q0 (Zd q1 (Zd q2 Zk))) mixed {} Tryz.func13 (hvc:=?_)),
 (Zf Zq Zk mixed {} Tryz.func106 (hvc:=?_)),
 (fun q0=>Zf Zq (Zd q0 Zk) mixed {loops:=[(0,[.reg 1 (.dat Iq),.reg 5 (.dat Iq)])]} Tryz.func48 (hvc:=?_)),
 (fun q0=>Zf Zq (Zd q0 Zk) mixed {} Tryz.func29 (hvc:=?_)),
 (fun q0=>Zf Zq (Zd q0 Zk) mixed {loops:=[(0,[.reg 1 (.dat Iq),.reg 5 (.dat Iq)])]} Tryz.func35 (hvc:=?_)),
 (Zf Zq Zk mixed {} Tryz.func46 (hvc:=?_)),
 (Zf Zq Zk mixed {} Tryz.func156 (hvc:=?_)),
 (fun q0=>Zf Zq (Zd q0 Zk) mixed {} Tryz.func42 (hvc:=?_)),
 (Zf Zq Zk mixed {} Tryz.func307 (hvc:=?_)),
 (fun q0=>Zf Zq (Zd q0 Zk) mixed {} Tryz.func83 (hvc:=?_)),
 (fun q0=>Zf Xa (Zd q0 Zk) mixed {loops:=[(0,[.reg 4 (.dat Iq),.ent 0 (nat_lit 289) Zxz])]} Tryz.func277 (hvc:=?_)),
 (fun q0=>Zf Zq (Zd q0 Zk) mixed {loops:=[(0,[.reg 4 (.dat Iq),.ent 0 (nat_lit 193) (.flat ZA6.ety)])]} Tryz.func58 (hvc:=?_)),
 (fun q0 q1 q2=>Zf Xa (Zd q0 (Zd q1 (Zd q2 Zk))) mixed {} Tryz.func53 (hvc:=?_)),
 (fun q0=>Zf Xa (Zd q0 Zk) mixed {loops:=[(0,[.reg 4 (.dat Iq),.ent 0 (nat_lit 88) Zo8])]} Tryz.func38 (hvc:=?_)),
 (fun q0=>Zf Zq (Zd q0 Zk) mixed {} Tryz.func203 (hvc:=?_)),
 (fun q0=>Zf Xa (Zd q0 Zk) mixed {loops:=[(0,[.reg 4 (.dat Iq),.ent 0 (nat_lit 219) Zb9])]} Tryz.func115 (hvc:=?_)),
 (Zf Zq Zk mixed {loops:=[(0,[.reg 4 (.dat Iq),.ent 0 (nat_lit 2) (.flat Zvn.ety)])]} Tryz.func157 (hvc:=?_)),
 (fun q3 q1 q0 q2=>Zf Xa (Zd q3 (Zd q1 (Zd q0 (Zd q2 Zk)))) mixed {} Tryz.func17 (hvc:=?_)),
 (Zf Zq Zk mixed {} Tryz.func205 (hvc:=?_)),
 (Zf Zq Zk mixed {loops:=[(0,[.reg 4 (.dat Iq),.ent 0 (nat_lit 9) (.flat ZAM.ety)])]} Tryz.func116 (hvc:=?_)),
 (Zf Zq Zk mixed {} Tryz.func127 (hvc:=?_)),
 (Zf Zq Zk mixed {} Tryz.func209 (hvc:=?_)),
 (Zf Zq Zk mixed {} Tryz.func206 (hvc:=?_)),
 (Zf Zq Zk mixed {} Tryz.func211 (hvc:=?_)),
 (Zf Zq Zk mixed {} Tryz.func128 (hvc:=?_)),
 (Zf Zq Zk mixed {} Tryz.func210 (hvc:=?_)),
 (fun q0=>Zf Zq (Zd q0 Zk) mixed {} Tryz.func185 (hvc:=?_)),
 (fun q0=>Zf Zq (Zd q0 Zk) mixed {loops:=[(0,[.reg 8 (.dat Iq)])]} Tryz.func361 (hvc:=?_)),
 (fun q0=>Zf Zq (Zd q0 Zk) mixed {loops:=[(0,[.reg 8 (.dat Iq)])]} Tryz.func304 (hvc:=?_)),
 (fun q0=>Zf Zq (Zd q0 Zk) mixed {loops:=[(0,[.reg 8 (.dat Iq)])]} Tryz.func232 (hvc:=?_)),
 (fun q0 q1 q2=>Zf Zq (Zd q0 (Zd q1 (Zd q2 Zk))) mixed {loops:=[(0,[.reg 5 (.own (.ol 9 (.flat (.str)))),.reg 6 (.dat Iq)]),(2,[.reg 7 (.own (.ol 9 (.flat (.str)))),.reg 8 (.dat Iq)]),(4,[.reg 10 (.dat Iq),.ent 6 (nat_lit 2) (.flat Zvn.ety)]),(6,[.reg 12 (.dat Iq),.ent 6 (nat_lit 2) (.flat Zvn.ety)]),(8,[.reg 13 (.dat Iq)])]} Tryz.func167 (hvc:=?_)),
 (fun q1 q0 q2=>Zf Zq (Zd q1 (Zd q0 (Zd q2 Zk))) mixed {} Tryz.func95 (hvc:=?_)),
 (fun q1 q0=>Zf Zq (Zd q1 (Zd q0 Zk)) mixed {} Tryz.func9 (hvc:=?_)),
 (fun q0=>Zf Zq (Zd q0 Zk) mixed {} Tryz.func318 (hvc:=?_)),
 (Zf Zq Zk mixed {loops:=[(0,[.reg 4 (.dat Iq),.ent 1 (nat_lit 2) (.flat Zvn.ety)])]} Tryz.func322 (hvc:=?_)),
 (fun q1 q0=>Zf Xa (Zd q1 (Zd q0 Zk)) mixed {loops:=[(0,[.reg 4 (.dat Iq),.cello 1003 3 (.ol 289 (Zxz))])],draws:=[(1,[0,1,0,4,0,0,32,112,0,256,1008,0,2048,0,8192,32767,0,131071],.op 0 (.op 2 (.op 5 (.op 6 (.op 8 (.op 11 (.op 13 (.ld 1 (.ld 3 (.ld 9 (.ld 12 (.ld 14 (.alt 4 (.alt 7 (.alt 10 (.op 15 (.alt 16 (.alt 17 (.done) (.done)) (.done))) (.alt 16 (.alt 10 (.op 15 (.alt 17 (.done) (.done))) (.done)) (.done))) (.alt 16 (.alt 7 (.alt 10 (.op 15 (.alt 17 (.done) (.done))) (.done)) (.done)) (.done))) (.alt 16 (.alt 4 (.alt 7 (.alt 10 (.op 15 (.alt 17 (.done) (.done))) (.done)) (.done)) (.done)) (.done)))))))))))))))]} Tryz.func200 (hvc:=?_)),
 (Zf Zq Zk mixed {loops:=[(0,[.reg 5 (.dat Iq)])]} Tryz.func339 (hvc:=?_)),
 (fun q0=>Zf Zq (Zd q0 Zk) mixed {loops:=[(0,[.reg 3 (.dat Iq)]),(2,[.reg 4 (.dat Iq)])],draws:=[(9,[0,0,3,7,0,0,48,112,255],.op 0 (.op 1 (.op 2 (.op 3 (.op 4 (.op 5 (.op 6 (.op 7 (.op 8 (.done))))))))))]} Tryz.func236 (hvc:=?_)),
 (fun q0=>Zf Xa (Zd q0 Zk) mixed {loops:=[(0,[.reg 4 (.dat Iq),.cello 1003 0 (.ol 219 (Zb9))])],draws:=[(1,[0,0,2,7,0,0,32,127,255,0,1023],.op 1 (.op 2 (.op 5 (.ld 6 (.alt 0 (.alt 3 (.alt 4 (.alt 7 (.op 8 (.alt 9 (.alt 10 (.done) (.done)) (.done))) (.alt 9 (.alt 7 (.op 8 (.alt 10 (.done) (.done))) (.done)) (.done))) (.alt 9 (.alt 4 (.alt 7 (.op 8 (.alt 10 (.done) (.done))) (.done)) (.done)) (.done))) (.alt 4 (.alt 3 (.alt 7 (.op 8 (.alt 9 (.alt 10 (.done) (.done)) (.done))) (.alt 9 (.alt 7 (.op 8 (.alt 10 (.done) (.done))) (.done)) (.done))) (.alt 9 (.alt 3 (.alt 7 (.op 8 (.alt 10 (.done) (.done))) (.done)) (.done)) (.done))) (.alt 9 (.alt 3 (.alt 4 (.alt 7 (.op 8 (.alt 10 (.done) (.done))) (.done)) (.done)) (.alt 4 (.alt 3 (.alt 7 (.op 8 (.alt 10 (.done) (.done))) (.done)) (.done)) (.done))) (.done)))) (.alt 4 (.alt 0 (.alt 3 (.alt 7 (.op 8 (.alt 9 (.alt 10 (.done) (.done)) (.done))) (.alt 9 (.alt 7 (.op 8 (.alt 10 (.done) (.done))) (.done)) (.done))) (.alt 9 (.alt 3 (.alt 7 (.op 8 (.alt 10 (.done) (.done))) (.done)) (.done)) (.done))) (.alt 9 (.alt 0 (.alt 3 (.alt 7 (.op 8 (.alt 10 (.done) (.done))) (.done)) (.done)) (.done)) (.done))) (.alt 9 (.alt 0 (.alt 3 (.alt 4 (.alt 7 (.op 8 (.alt 10 (.done) (.done))) (.done)) (.done)) (.alt 4 (.alt 3 (.alt 7 (.op 8 (.alt 10 (.done) (.done))) (.done)) (.done)) (.done))) (.alt 4 (.alt 0 (.alt 3 (.alt 7 (.op 8 (.alt 10 (.done) (.done))) (.done)) (.done)) (.done)) (.done))) (.done))))))))]} Tryz.func112 (hvc:=?_)),
 (Zf Zq Zk mixed {} Tryz.func286 (hvc:=?_)),
 (fun q0 q2 q1=>Zf Xa (Zd q0 (Zd q2 (Zd q1 Zk))) mixed {loops:=[(0,[.reg 4 (.dat Iq),.cello 1003 4 (.ol 86 (Zl3))])],draws:=[(1,[0,1,3,0,8,31,63,0,255],.op 0 (.op 1 (.op 3 (.op 4 (.alt 2 (.alt 5 (.op 6 (.alt 7 (.alt 8 (.done) (.done)) (.done))) (.alt 7 (.alt 5 (.op 6 (.alt 8 (.done) (.done))) (.done)) (.done))) (.alt 7 (.alt 2 (.alt 5 (.op 6 (.alt 8 (.done) (.done))) (.done)) (.done)) (.done))))))),(5,[0,1,0,4,0,28,60,124,252,511,1023,2047],.op 0 (.op 1 (.op 2 (.op 3 (.op 4 (.op 5 (.op 6 (.alt 7 (.alt 8 (.alt 9 (.op 10 (.alt 11 (.done) (.done))) (.done)) (.done)) (.done)))))))))]} Tryz.func51 (hvc:=?_)),
 (fun q0=>Zf Zq (Zd q0 Zk) mixed {draws:=[(1,[0,1,3,0,8,31,0,64,255,0,512,2047,4095,8191],.op 0 (.op 1 (.op 3 (.op 4 (.op 6 (.op 7 (.op 9 (.op 10 (.alt 2 (.alt 5 (.alt 8 (.alt 11 (.op 12 (.alt 13 (.done) (.done))) (.done)) (.done)) (.done)) (.done))))))))))]} Tryz.func113 (hvc:=?_)),
 (fun q7 q2 q3 q4 q6 q0 q5 q1=>Zf Xa (Zd q7 (Zd q2 (Zd q3 (Zd q4 (Zd q6 (Zd q0 (Zd q5 (Zd q1 Zk)))))))) mixed {draws:=[(5,[0,1,3,0,0,16,56,120,248,0,512,2047,4095,8191],.op 0 (.op 1 (.op 2 (.op 3 (.op 4 (.op 5 (.op 6 (.op 7 (.op 8 (.op 9 (.op 10 (.op 11 (.op 12 (.alt 13 (.done) (.done))))))))))))))),(13,[0,1,0,0,8,28,60,0,128,511],.op 0 (.op 1 (.op 2 (.op 3 (.op 4 (.op 5 (.op 6 (.op 7 (.op 8 (.alt 9 (.done) (.done))))))))))),(16,[0,1,0,4,0,16,48,127,255],.op 0 (.op 1 (.op 2 (.op 3 (.op 4 (.op 5 (.alt 6 (.op 7 (.alt 8 (.done) (.done))) (.done))))))))]} Tryz.func152 (hvc:=?_)),
 (Zf Zq Zk mixed {} Tryz.func340 (hvc:=?_)),
 (Zf Xa Zk mixed {draws:=[(3,[0,1,0,4,15,31,63,0,128,0,1023,2047],.op 0 (.op 1 (.op 2 (.op 3 (.op 4 (.op 5 (.op 6 (.op 7 (.op 8 (.op 9 (.op 10 (.alt 11 (.done) (.done)))))))))))))]} Tryz.func227 (hvc:=?_)),
 (fun q0 q1 q2=>Zf Zq (Zd q0 (Zd q1 (Zd q2 Zk))) mixed {draws:=[(6,[0,1,3,0,8,31,63,127,255,511,1023,2047,4095,8191,1023,32767,65535,131071,262143,524287,1048575,262143,4194303,8388607,262143,17039359,67108863,134217727,268435455,536870911,1073741823,2147483647,4294967295,536870911,17179869183,34359738367],.op 0 (.op 1 (.op 2 (.op 3 (.op 4 (.op 5 (.op 6 (.alt 7 (.op 8 (.op 9 (.op 10 (.op 11 (.op 12 (.op 13 (.op 14 (.op 15 (.op 16 (.op 17 (.op 18 (.op 19 (.op 20 (.op 21 (.op 22 (.op 23 (.op 24 (.op 25 (.op 26 (.op 27 (.op 28 (.op 29 (.op 30 (.op 31 (.op 32 (.op 33 (.op 34 (.op 35 (.done))))))))))))))))))))))))))))) (.done)))))))))]} Tryz.func319 (hvc:=?_)),
 (fun q1 q3 q2 q6 q0 q4 q7 q5 q8=>Zf Zq (Zd q1 (Zd q3 (Zd q2 (Zd q6 (Zd q0 (Zd q4 (Zd q7 (Zd q5 (Zd q8 Zk))))))))) mixed {draws:=[(5,[0,1,3,7,15,31,63,127,255,511,1023,255,2303,6399,255,16639,63743,129279,260351,524287,1048575,255,2097407,6291711,255,16777471,65011967,132120831,268435455,536870911,1073741823],.op 0 (.op 1 (.op 2 (.op 3 (.op 4 (.op 5 (.op 6 (.op 7 (.op 8 (.op 9 (.op 10 (.op 11 (.op 12 (.op 13 (.op 14 (.op 15 (.op 16 (.op 17 (.op 18 (.op 19 (.op 20 (.op 21 (.op 22 (.op 23 (.op 24 (.op 25 (.op 26 (.op 27 (.alt 28 (.op 29 (.op 30 (.done))) (.done)))))))))))))))))))))))))))))),(11,[0,0,2,7,15,31,63,127,255,255,767,2047,4095,8191,255,16639,65535,131071,262143],.op 0 (.op 1 (.op 2 (.op 3 (.op 4 (.op 5 (.op 6 (.op 7 (.op 8 (.op 9 (.op 10 (.op 11 (.op 12 (.op 13 (.op 14 (.op 15 (.op 16 (.op 17 (.op 18 (.done)))))))))))))))))))),(12,[0,1,0,4,0,16,60,124,255,511],.op 0 (.op 1 (.op 2 (.op 3 (.op 4 (.op 5 (.alt 6 (.op 7 (.alt 8 (.op 9 (.done)) (.done))) (.done))))))))]} Tryz.func285 (hvc:=?_)),
 (fun q0 q1=>Zf Zq (Zd q0 (Zd q1 Zk)) mixed {} Tryz.func170 (hvc:=?_)),
 (fun q0 q1=>Zf Zq (Zd q0 (Zd q1 Zk)) mixed {loops:=[(0,[.reg 7 (.dat Iq)])],draws:=[(4,[0,0,3,7,0,16,48,127,255,511,1023,2047,4095,8191,16383,32767,65535,65535,196607,524287,1048575,65535,65535,6356991,14745599,33554431,67108863,134217727],.op 0 (.op 1 (.op 2 (.op 3 (.op 4 (.alt 5 (.op 6 (.alt 7 (.op 8 (.op 9 (.op 10 (.op 11 (.op 12 (.op 13 (.op 14 (.op 15 (.op 16 (.op 17 (.op 18 (.op 19 (.op 20 (.op 21 (.op 22 (.op 23 (.op 24 (.op 25 (.op 26 (.op 27 (.done))))))))))))))))))))) (.done))) (.done)))))))]} Tryz.func175 (hvc:=?_)),
 (fun q0=>Zf Zq (Zd q0 Zk) mixed {loops:=[(0,[.reg 5 (.own (.ol 2 (.flat Iq))),.reg 8 (.dat Iq)])]} Tryz.func223 (hvc:=?_))⟩
 all_goals
  intro a
  repeat rcases a with ⟨_,a⟩
  rintro K ⟨r,h,hK⟩
  repeat'
    conv=>whnf
    first
    | with_reducible refine ZvK ?_
    | with_reducible refine ZeS (by assumption) (by assumption) (by assumption) ?_
    | with_reducible refine QO (by assumption) ?_
    | with_reducible refine ZeX (by assumption) ?_
    | (with_reducible refine shD ?_);first | refine ZsV h (fun h=>?_) (fun h=>?_) | refine Zvc h (fun h=>?_) (fun h=>?_)
    | (with_reducible refine Zvw ?_);first | refine Zzx ?_ | refine Zs3 ?_
    | (with_reducible refine ZAC ?_);first | refine ZuI h (fun h=>?_) (fun h=>?_) | refine Zvv h (fun h=>?_) (fun h=>?_)
    | (with_reducible refine Zva ?_);(refine ⟨fun hd=>?_,?_⟩)<;>try subst hd
    | (with_reducible refine ZAt ?_);first | with_reducible refine Zc5 h (fun x hb h=>?_) | refine ZeX (by assumption) ?_ | with_reducible refine pG h (fun hp h=>?_) | with_reducible refine pA h (fun x ha hb hx h=>?_) | with_reducible refine pB h (fun x hb h=>?_) | refine Zc5 h (fun x hb h=>?_)
    | (with_reducible refine ZAA ?_);first | with_reducible refine vAt h (fun x ha hb hx h=>?_) | refine ZeS (by assumption) (by assumption) (by assumption) ?_ | with_reducible refine pG h (fun hp h=>?_) | with_reducible refine pA h (fun x ha hb hx h=>?_) | with_reducible refine pB h (fun x hb h=>?_) | refine vAt h (fun x ha hb hx h=>?_)
    | (with_reducible refine ZvL ?_);first | with_reducible refine Zok h (fun x hb h=>?_) | refine QO (by assumption) ?_ | with_reducible refine pG h (fun hp h=>?_) | with_reducible refine pA h (fun x ha hb hx h=>?_) | with_reducible refine pB h (fun x hb h=>?_) | refine Zok h (fun x hb h=>?_)
    | with_reducible refine ZAF ?_
    | (with_reducible refine ZqE ?_);refine ZqA h hK ?_;clear h hK;intro I μ v r h hK;(repeat rcases v with ⟨_,v⟩);(try dsimp only at h)
    | with_reducible refine ⟨by assumption,?_⟩
    | with_reducible refine orL ?_
    | with_reducible refine .inr ?_
    | (with_reducible refine ZvB ?_);first | refine ⟨?_,True.intro⟩ | refine ⟨?_,?_⟩
    | refine ⟨by kernel_rfl,?_⟩
    | refine ⟨by decide,?_⟩
    | with_reducible refine ZpS h (fun hp h=>?_)
    | intro fp
    | exact trivial
    | with_reducible exact Zvu h
    | (refine pS h (fun e=>?_));subst e;(repeat (first | exact hK | exact ⟨⟨rfl,rfl⟩,hK.1 _ rfl⟩ | (refine pR hK (fun e hK=>?_));subst e));done
    | refine ZpS h (fun hp h=>?_)
    | refine ⟨by assumption,?_⟩
    | with_reducible refine pG h (fun hp h=>?_) | with_reducible refine pA h (fun x ha hb hx h=>?_) | with_reducible refine pB h (fun x hb h=>?_)
    | refine pG h (fun hp h=>?_)
    | fail
theorem ZRC (q0:Sq 209 ZEj) (q2:Sq 210 ZBV) (q1:Sq 211 ZDC) (q3:Sq 128 ZBT):Sq 123 ZAL:=by
 refine Zf Xa (Zd q0 (Zd q2 (Zd q1 (Zd q3 Zk)))) mixed {loops:=[(0,[.reg 19 (.dat Iq),.splt 1300 219 (Zb9)])],draws:=[(1,[0,1,3,0,8,31,0,64,255,511,0,2047],.op 0 (.op 1 (.op 3 (.op 4 (.op 6 (.op 7 (.alt 2 (.alt 5 (.alt 8 (.op 9 (.alt 10 (.alt 11 (.done) (.done)) (.done))) (.alt 10 (.alt 8 (.op 9 (.alt 11 (.done) (.done))) (.done)) (.done))) (.alt 10 (.alt 5 (.alt 8 (.op 9 (.alt 11 (.done) (.done))) (.done)) (.done)) (.done))) (.alt 10 (.alt 2 (.alt 5 (.alt 8 (.op 9 (.alt 11 (.done) (.done))) (.done)) (.done)) (.done)) (.done))))))))),(5,[0,1,0,0,8,24,63,127,255],.op 0 (.op 1 (.op 2 (.op 3 (.op 4 (.alt 5 (.op 6 (.op 7 (.alt 8 (.done) (.done)))) (.done)))))))]} (fn:=Tryz.f123) Tryz.func123 (by kernel_rfl) (by kernel_rfl) ?_
 rintro ⟨d0,⟨⟩⟩ K ⟨r,h,hK⟩
 change Vp d0=some r at h
 unfold Vp at h
 focus
  conv=>whnf
  refine ⟨by kernel_rfl,?_⟩
  conv=>whnf
  obtain ⟨Instance0,hb0,h⟩:=Option.bind_eq_some_iff.1 h
  obtain ⟨string0,hb1,h⟩:=Option.bind_eq_some_iff.1 h
  obtain ⟨Port0,hb2,h⟩:=Option.bind_eq_some_iff.1 h
  refine ⟨?_,?_⟩
  rotate_left
  focus
   conv=>whnf
   refine ⟨_,hb0,?_⟩
   conv=>whnf
   refine ⟨_,hb1,?_⟩
   conv=>whnf
   refine ⟨_,hb2,?_⟩
   conv=>whnf
   refine ⟨trivial,?_⟩
  rotate_right
  focus
   conv=>whnf
   refine ⟨_,hb0,?_⟩
   conv=>whnf
   refine ⟨?_,?_⟩
   rotate_left
   focus
    conv=>whnf
    refine ⟨_,hb1,?_⟩
    conv=>whnf
    refine ⟨_,hb2,?_⟩
    conv=>whnf
    refine ⟨trivial,?_⟩
   rotate_right
   focus
    conv=>whnf
    refine ⟨_,hb1,?_⟩
    conv=>whnf
    refine ⟨?_,?_⟩
    rotate_left
    focus
     conv=>whnf
     refine ⟨_,hb2,?_⟩
     conv=>whnf
     refine ⟨trivial,?_⟩
    rotate_right
    focus
     conv=>whnf
     refine ⟨_,hb2,?_⟩
     conv=>whnf
     refine ⟨trivial,?_⟩
  all_goals
   conv=>whnf
   refine ZyY h ?_
   rintro I3 μ3 ⟨v0,l0,⟨⟩⟩ zs3 h hI3 hR3
   change Qg Instance0 string0 Port0 v0 l0=some zs3 at h
   unfold Qg at h
   conv=>whnf
   intro fp4
   conv=>whnf
   refine ZsV h (fun h=>?_) (fun h=>?_)
   conv=>whnf
   refine vAt h (fun x0 he5a he5b he5x h=>?_)
   conv=>whnf
   refine ZpS h (fun hp6 h=>?_)
   conv=>whnf
   refine ⟨he5a,he5b,QO he5x ?_⟩
   conv=>whnf
   refine ⟨by kernel_rfl,?_⟩
   conv=>whnf
   refine Zc5 h (fun int64_0 hb7 h=>?_)
   conv=>whnf
   refine ⟨he5a,he5b,QO he5x ?_⟩
   conv=>whnf
   refine ZpS h (fun hp8 h=>?_)
   conv=>whnf
   refine vAt h (fun x1 he9a he9b he9x h=>?_)
   conv=>whnf
   refine ⟨trivial,?_⟩
   conv=>whnf
   cases h
   exact ⟨⟨rfl,rfl⟩,hI3 _ rfl⟩
   conv=>whnf
   refine ZpS h (fun hp10 h=>?_)
   conv=>whnf
   cases h
   obtain rfl:=hR3 _ rfl
   exact hK
theorem ZG9 (q1:Sq 94 c76) (q4:Sq 226 ZAy) (q5:Sq 201 c107) (q0:Sq 227 c116) (q2:Sq 286 c117) (q3:Sq 228 ZBv):Sq 224 c119:=by
 refine Zf Xa (Zd q1 (Zd q4 (Zd q5 (Zd q0 (Zd q2 (Zd q3 Zk)))))) mixed {draws:=[(1,[0,1,3,0,8,31,63,0,255],.op 0 (.op 1 (.op 3 (.op 4 (.alt 2 (.op 5 (.op 6 (.alt 7 (.alt 8 (.done) (.done)) (.done)))) (.alt 7 (.alt 2 (.op 5 (.op 6 (.alt 8 (.done) (.done)))) (.done)) (.done))))))),(5,[0,0,3,7,0,0,32,112,240,496,1023,2047],.op 0 (.op 1 (.op 4 (.op 5 (.op 6 (.op 7 (.op 8 (.alt 2 (.alt 3 (.alt 9 (.alt 10 (.op 11 (.done)) (.done)) (.done)) (.alt 9 (.alt 3 (.alt 10 (.op 11 (.done)) (.done)) (.done)) (.done))) (.alt 9 (.alt 2 (.alt 3 (.alt 10 (.op 11 (.done)) (.done)) (.done)) (.done)) (.done)))))))))),(14,[0,1,3,0,8,31,0,64,192,0,512,1536,4095,0,8192,24576,65535,0,262143],.op 0 (.op 1 (.op 2 (.op 3 (.op 6 (.op 7 (.op 9 (.op 13 (.op 14 (.ld 8 (.ld 10 (.ld 15 (.alt 4 (.alt 5 (.alt 11 (.alt 12 (.op 16 (.alt 17 (.alt 18 (.done) (.done)) (.done))) (.alt 17 (.alt 12 (.op 16 (.alt 18 (.done) (.done))) (.done)) (.done))) (.alt 17 (.alt 11 (.alt 12 (.op 16 (.alt 18 (.done) (.done))) (.done)) (.done)) (.done))) (.alt 11 (.alt 5 (.alt 12 (.op 16 (.alt 17 (.alt 18 (.done) (.done)) (.done))) (.alt 17 (.alt 12 (.op 16 (.alt 18 (.done) (.done))) (.done)) (.done))) (.alt 17 (.alt 5 (.alt 12 (.op 16 (.alt 18 (.done) (.done))) (.done)) (.done)) (.done))) (.alt 17 (.alt 5 (.alt 11 (.alt 12 (.op 16 (.alt 18 (.done) (.done))) (.done)) (.done)) (.alt 11 (.alt 5 (.alt 12 (.op 16 (.alt 18 (.done) (.done))) (.done)) (.done)) (.done))) (.done)))) (.alt 11 (.alt 4 (.alt 5 (.alt 12 (.op 16 (.alt 17 (.alt 18 (.done) (.done)) (.done))) (.alt 17 (.alt 12 (.op 16 (.alt 18 (.done) (.done))) (.done)) (.done))) (.alt 17 (.alt 5 (.alt 12 (.op 16 (.alt 18 (.done) (.done))) (.done)) (.done)) (.done))) (.alt 17 (.alt 4 (.alt 5 (.alt 12 (.op 16 (.alt 18 (.done) (.done))) (.done)) (.done)) (.done)) (.done))) (.alt 17 (.alt 4 (.alt 5 (.alt 11 (.alt 12 (.op 16 (.alt 18 (.done) (.done))) (.done)) (.done)) (.alt 11 (.alt 5 (.alt 12 (.op 16 (.alt 18 (.done) (.done))) (.done)) (.done)) (.done))) (.alt 11 (.alt 4 (.alt 5 (.alt 12 (.op 16 (.alt 18 (.done) (.done))) (.done)) (.done)) (.done)) (.done))) (.done)))))))))))))))),(15,[0,1,0,0,8,0,32,120,255,0,1023,2047],.op 0 (.op 3 (.op 4 (.op 9 (.ld 1 (.ld 2 (.alt 5 (.alt 6 (.alt 7 (.op 8 (.alt 10 (.alt 11 (.done) (.done)) (.done))) (.done)) (.done)) (.done))))))))]} (fn:=Tryz.f224) Tryz.func224 (by kernel_rfl) (by kernel_rfl) ?_
 rintro ⟨a0,a1,⟨⟩⟩ K ⟨r,h,hK⟩
 change ZaO a0 a1=some r at h
 unfold ZaO at h
 focus
  conv=>whnf
  intro fp0
  conv=>whnf
  intro fp1
  conv=>whnf
  intro fp2
  conv=>whnf
  refine ⟨by kernel_rfl,?_⟩
  conv=>whnf
  obtain ⟨l05Places0,hb3,h⟩:=Option.bind_eq_some_iff.1 h
  obtain ⟨x0,he4a,he4b,he4x,h⟩:=atE h
  refine ⟨?_,?_⟩
  rotate_left
  focus
   conv=>whnf
   refine ⟨_,hb3,?_⟩
   conv=>whnf
   refine ⟨he4a,he4b,QO he4x ?_⟩
   conv=>whnf
   refine ⟨by kernel_rfl,?_⟩
   conv=>whnf
   refine ⟨he4a,he4b,QO he4x ?_⟩
   conv=>whnf
   refine ⟨trivial,?_⟩
  rotate_right
  focus
   conv=>whnf
   refine ⟨_,hb3,?_⟩
   conv=>whnf
   refine ⟨he4a,he4b,QO he4x ?_⟩
   conv=>whnf
   refine ⟨by kernel_rfl,?_⟩
   conv=>whnf
   refine ⟨he4a,he4b,QO he4x ?_⟩
   conv=>whnf
   refine ⟨trivial,?_⟩
  all_goals
   focus
    conv=>whnf
    refine Zc5 h (fun l08Nodes0 hb5 h=>?_)
    conv=>whnf
    refine ⟨by kernel_rfl,?_⟩
    conv=>whnf
    refine vAt h (fun x1 he6a he6b he6x h=>?_)
    conv=>whnf
    refine ⟨by kernel_rfl,?_⟩
    conv=>whnf
    refine ⟨he6a,he6b,QO he6x ?_⟩
    conv=>whnf
    obtain ⟨hp7,h⟩:=guardE h
    obtain ⟨hp8,h⟩:=guardE h
    obtain ⟨l02Ints0,hb9,h⟩:=Option.bind_eq_some_iff.1 h
    obtain ⟨hp10,h⟩:=guardE h
    refine ⟨?_,?_⟩
    rotate_left
    focus
     conv=>whnf
     refine ⟨by decide,?_⟩
     conv=>whnf
     refine ⟨hp7,?_⟩
     conv=>whnf
     refine ⟨hp8,?_⟩
     conv=>whnf
     refine ⟨_,hb9,?_⟩
     conv=>whnf
     refine ⟨hp10,?_⟩
     conv=>whnf
     refine ⟨trivial,?_⟩
    rotate_right
    focus
     conv=>whnf
     refine ⟨by decide,?_⟩
     conv=>whnf
     refine ⟨hp7,?_⟩
     conv=>whnf
     refine ⟨hp8,?_⟩
     conv=>whnf
     refine ⟨?_,?_⟩
     rotate_left
     focus
      conv=>whnf
      refine ⟨_,hb9,?_⟩
      conv=>whnf
      refine ⟨hp10,?_⟩
      conv=>whnf
      refine ⟨trivial,?_⟩
     rotate_right
     focus
      conv=>whnf
      refine ⟨_,hb9,?_⟩
      conv=>whnf
      refine ⟨hp10,?_⟩
      conv=>whnf
      refine ⟨trivial,?_⟩
    all_goals
     conv=>whnf
     refine ⟨hp7,?_⟩
     conv=>whnf
     refine ⟨hp8,?_⟩
     conv=>whnf
     refine ZpS h (fun hp11 h=>?_)
     conv=>whnf
     refine ZpS h (fun hp12 h=>?_)
     conv=>whnf
     refine Zc5 h (fun l08Connect0 hb13 h=>?_)
     conv=>whnf
     intro fp14
     conv=>whnf
     refine ZsV h (fun h=>?_) (fun h=>?_)
     focus
      conv=>whnf
      refine vAt h (fun x2 he15a he15b he15x h=>?_)
      conv=>whnf
      refine ⟨by kernel_rfl,?_⟩
      conv=>whnf
      refine ⟨by decide,?_⟩
      conv=>whnf
      refine ⟨he15a,he15b,QO he15x ?_⟩
      conv=>whnf
      refine ⟨by kernel_rfl,?_⟩
      conv=>whnf
      refine ⟨by kernel_rfl,?_⟩
      conv=>whnf
      refine ⟨by kernel_rfl,?_⟩
      conv=>whnf
      refine ⟨by kernel_rfl,?_⟩
      conv=>whnf
      obtain ⟨hp17,h⟩:=guardE h
      obtain ⟨hp19,h⟩:=guardE h
      refine ⟨?_,?_⟩
      rotate_left
      focus
       conv=>whnf
       refine ⟨?_,?_⟩
       rotate_left
       focus
        conv=>whnf
        refine ⟨?_,?_⟩
        rotate_left
        focus
         conv=>whnf
         intro fp29
         conv=>whnf
         refine ⟨by kernel_rfl,?_⟩
         conv=>whnf
         refine ⟨hp17,?_⟩
         conv=>whnf
         intro fp30
         conv=>whnf
         refine ⟨by kernel_rfl,?_⟩
         conv=>whnf
         refine ⟨hp19,?_⟩
         conv=>whnf
         refine ⟨trivial,?_⟩
        rotate_right
        focus
         conv=>whnf
         intro fp29
         conv=>whnf
         refine ⟨?_,?_⟩
         rotate_left
         focus
          conv=>whnf
          refine ⟨by kernel_rfl,?_⟩
          conv=>whnf
          refine ⟨hp17,?_⟩
          conv=>whnf
          intro fp30
          conv=>whnf
          refine ⟨by kernel_rfl,?_⟩
          conv=>whnf
          refine ⟨hp19,?_⟩
          conv=>whnf
          refine ⟨trivial,?_⟩
         rotate_right
         focus
          conv=>whnf
          refine ⟨by kernel_rfl,?_⟩
          conv=>whnf
          refine ⟨hp17,?_⟩
          conv=>whnf
          intro fp30
          conv=>whnf
          refine ⟨by kernel_rfl,?_⟩
          conv=>whnf
          refine ⟨hp19,?_⟩
          conv=>whnf
          refine ⟨trivial,?_⟩
       rotate_right
       focus
        conv=>whnf
        refine ⟨?_,?_⟩
        rotate_left
        focus
         conv=>whnf
         intro fp29
         conv=>whnf
         refine ⟨by kernel_rfl,?_⟩
         conv=>whnf
         refine ⟨hp17,?_⟩
         conv=>whnf
         intro fp30
         conv=>whnf
         refine ⟨by kernel_rfl,?_⟩
         conv=>whnf
         refine ⟨hp19,?_⟩
         conv=>whnf
         refine ⟨trivial,?_⟩
        rotate_right
        focus
         conv=>whnf
         intro fp29
         conv=>whnf
         refine ⟨?_,?_⟩
         rotate_left
         focus
          conv=>whnf
          refine ⟨by kernel_rfl,?_⟩
          conv=>whnf
          refine ⟨hp17,?_⟩
          conv=>whnf
          intro fp30
          conv=>whnf
          refine ⟨by kernel_rfl,?_⟩
          conv=>whnf
          refine ⟨hp19,?_⟩
          conv=>whnf
          refine ⟨trivial,?_⟩
         rotate_right
         focus
          conv=>whnf
          refine ⟨by kernel_rfl,?_⟩
          conv=>whnf
          refine ⟨hp17,?_⟩
          conv=>whnf
          intro fp30
          conv=>whnf
          refine ⟨?_,?_⟩
          rotate_left
          focus
           conv=>whnf
           refine ⟨by kernel_rfl,?_⟩
           conv=>whnf
           refine ⟨hp19,?_⟩
           conv=>whnf
           refine ⟨trivial,?_⟩
          rotate_right
          focus
           conv=>whnf
           refine ⟨by kernel_rfl,?_⟩
           conv=>whnf
           refine ⟨hp19,?_⟩
           conv=>whnf
           refine ⟨trivial,?_⟩
      rotate_right
      focus
       conv=>whnf
       intro fp29
       conv=>whnf
       refine ⟨?_,?_⟩
       rotate_left
       focus
        conv=>whnf
        refine ⟨?_,?_⟩
        rotate_left
        focus
         conv=>whnf
         refine ⟨?_,?_⟩
         rotate_left
         focus
          conv=>whnf
          refine ⟨by kernel_rfl,?_⟩
          conv=>whnf
          refine ⟨hp17,?_⟩
          conv=>whnf
          intro fp30
          conv=>whnf
          refine ⟨by kernel_rfl,?_⟩
          conv=>whnf
          refine ⟨hp19,?_⟩
          conv=>whnf
          refine ⟨trivial,?_⟩
         rotate_right
         focus
          conv=>whnf
          refine ⟨by kernel_rfl,?_⟩
          conv=>whnf
          refine ⟨hp17,?_⟩
          conv=>whnf
          intro fp30
          conv=>whnf
          refine ⟨by kernel_rfl,?_⟩
          conv=>whnf
          refine ⟨hp19,?_⟩
          conv=>whnf
          refine ⟨trivial,?_⟩
        rotate_right
        focus
         conv=>whnf
         refine ⟨?_,?_⟩
         rotate_left
         focus
          conv=>whnf
          refine ⟨by kernel_rfl,?_⟩
          conv=>whnf
          refine ⟨hp17,?_⟩
          conv=>whnf
          intro fp30
          conv=>whnf
          refine ⟨by kernel_rfl,?_⟩
          conv=>whnf
          refine ⟨hp19,?_⟩
          conv=>whnf
          refine ⟨trivial,?_⟩
         rotate_right
         focus
          conv=>whnf
          refine ⟨by kernel_rfl,?_⟩
          conv=>whnf
          refine ⟨hp17,?_⟩
          conv=>whnf
          intro fp30
          conv=>whnf
          refine ⟨?_,?_⟩
          rotate_left
          focus
           conv=>whnf
           refine ⟨by kernel_rfl,?_⟩
           conv=>whnf
           refine ⟨hp19,?_⟩
           conv=>whnf
           refine ⟨trivial,?_⟩
          rotate_right
          focus
           conv=>whnf
           refine ⟨by kernel_rfl,?_⟩
           conv=>whnf
           refine ⟨hp19,?_⟩
           conv=>whnf
           refine ⟨trivial,?_⟩
       rotate_right
       focus
        conv=>whnf
        refine ⟨by kernel_rfl,?_⟩
        conv=>whnf
        refine ⟨hp17,?_⟩
        conv=>whnf
        intro fp30
        conv=>whnf
        refine ⟨?_,?_⟩
        rotate_left
        focus
         conv=>whnf
         refine ⟨by kernel_rfl,?_⟩
         conv=>whnf
         refine ⟨hp19,?_⟩
         conv=>whnf
         refine ⟨trivial,?_⟩
        rotate_right
        focus
         conv=>whnf
         refine ⟨?_,?_⟩
         rotate_left
         focus
          conv=>whnf
          refine ⟨by kernel_rfl,?_⟩
          conv=>whnf
          refine ⟨hp19,?_⟩
          conv=>whnf
          refine ⟨trivial,?_⟩
         rotate_right
         focus
          conv=>whnf
          refine ⟨by kernel_rfl,?_⟩
          conv=>whnf
          refine ⟨hp19,?_⟩
          conv=>whnf
          refine ⟨trivial,?_⟩
      all_goals
       conv=>whnf
       refine ⟨by kernel_rfl,?_⟩
       conv=>whnf
       refine ⟨by kernel_rfl,?_⟩
       conv=>whnf
       refine ⟨by kernel_rfl,?_⟩
       conv=>whnf
       refine Zc5 h (fun l07Lumped0 hb20 h=>?_)
       conv=>whnf
       intro fp21
       conv=>whnf
       refine ⟨by kernel_rfl,?_⟩
       conv=>whnf
       refine ZpS h (fun hp22 h=>?_)
       conv=>whnf
       intro fp23
       conv=>whnf
       refine Zc5 h (fun l08Attach0 hb24 h=>?_)
       conv=>whnf
       intro fp25
       conv=>whnf
       intro fp26
       conv=>whnf
       intro fp27
       conv=>whnf
       refine ⟨trivial,?_⟩
       conv=>whnf
       cases h
       exact hK
     focus
      conv=>whnf
      refine vAt h (fun x2 he31a he31b he31x h=>?_)
      conv=>whnf
      refine ⟨by kernel_rfl,?_⟩
      conv=>whnf
      refine ⟨by decide,?_⟩
      conv=>whnf
      refine ⟨he31a,he31b,QO he31x ?_⟩
      conv=>whnf
      refine ⟨by kernel_rfl,?_⟩
      conv=>whnf
      refine ⟨by kernel_rfl,?_⟩
      conv=>whnf
      refine ⟨by kernel_rfl,?_⟩
      conv=>whnf
      refine ⟨by kernel_rfl,?_⟩
      conv=>whnf
      obtain ⟨hp33,h⟩:=guardE h
      obtain ⟨hp35,h⟩:=guardE h
      refine ⟨?_,?_⟩
      rotate_left
      focus
       conv=>whnf
       refine ⟨?_,?_⟩
       rotate_left
       focus
        conv=>whnf
        refine ⟨?_,?_⟩
        rotate_left
        focus
         conv=>whnf
         intro fp45
         conv=>whnf
         refine ⟨by kernel_rfl,?_⟩
         conv=>whnf
         refine ⟨hp33,?_⟩
         conv=>whnf
         intro fp46
         conv=>whnf
         refine ⟨by kernel_rfl,?_⟩
         conv=>whnf
         refine ⟨hp35,?_⟩
         conv=>whnf
         refine ⟨trivial,?_⟩
        rotate_right
        focus
         conv=>whnf
         intro fp45
         conv=>whnf
         refine ⟨?_,?_⟩
         rotate_left
         focus
          conv=>whnf
          refine ⟨by kernel_rfl,?_⟩
          conv=>whnf
          refine ⟨hp33,?_⟩
          conv=>whnf
          intro fp46
          conv=>whnf
          refine ⟨by kernel_rfl,?_⟩
          conv=>whnf
          refine ⟨hp35,?_⟩
          conv=>whnf
          refine ⟨trivial,?_⟩
         rotate_right
         focus
          conv=>whnf
          refine ⟨by kernel_rfl,?_⟩
          conv=>whnf
          refine ⟨hp33,?_⟩
          conv=>whnf
          intro fp46
          conv=>whnf
          refine ⟨by kernel_rfl,?_⟩
          conv=>whnf
          refine ⟨hp35,?_⟩
          conv=>whnf
          refine ⟨trivial,?_⟩
       rotate_right
       focus
        conv=>whnf
        refine ⟨?_,?_⟩
        rotate_left
        focus
         conv=>whnf
         intro fp45
         conv=>whnf
         refine ⟨by kernel_rfl,?_⟩
         conv=>whnf
         refine ⟨hp33,?_⟩
         conv=>whnf
         intro fp46
         conv=>whnf
         refine ⟨by kernel_rfl,?_⟩
         conv=>whnf
         refine ⟨hp35,?_⟩
         conv=>whnf
         refine ⟨trivial,?_⟩
        rotate_right
        focus
         conv=>whnf
         intro fp45
         conv=>whnf
         refine ⟨?_,?_⟩
         rotate_left
         focus
          conv=>whnf
          refine ⟨by kernel_rfl,?_⟩
          conv=>whnf
          refine ⟨hp33,?_⟩
          conv=>whnf
          intro fp46
          conv=>whnf
          refine ⟨by kernel_rfl,?_⟩
          conv=>whnf
          refine ⟨hp35,?_⟩
          conv=>whnf
          refine ⟨trivial,?_⟩
         rotate_right
         focus
          conv=>whnf
          refine ⟨by kernel_rfl,?_⟩
          conv=>whnf
          refine ⟨hp33,?_⟩
          conv=>whnf
          intro fp46
          conv=>whnf
          refine ⟨?_,?_⟩
          rotate_left
          focus
           conv=>whnf
           refine ⟨by kernel_rfl,?_⟩
           conv=>whnf
           refine ⟨hp35,?_⟩
           conv=>whnf
           refine ⟨trivial,?_⟩
          rotate_right
          focus
           conv=>whnf
           refine ⟨by kernel_rfl,?_⟩
           conv=>whnf
           refine ⟨hp35,?_⟩
           conv=>whnf
           refine ⟨trivial,?_⟩
      rotate_right
      focus
       conv=>whnf
       intro fp45
       conv=>whnf
       refine ⟨?_,?_⟩
       rotate_left
       focus
        conv=>whnf
        refine ⟨?_,?_⟩
        rotate_left
        focus
         conv=>whnf
         refine ⟨?_,?_⟩
         rotate_left
         focus
          conv=>whnf
          refine ⟨by kernel_rfl,?_⟩
          conv=>whnf
          refine ⟨hp33,?_⟩
          conv=>whnf
          intro fp46
          conv=>whnf
          refine ⟨by kernel_rfl,?_⟩
          conv=>whnf
          refine ⟨hp35,?_⟩
          conv=>whnf
          refine ⟨trivial,?_⟩
         rotate_right
         focus
          conv=>whnf
          refine ⟨by kernel_rfl,?_⟩
          conv=>whnf
          refine ⟨hp33,?_⟩
          conv=>whnf
          intro fp46
          conv=>whnf
          refine ⟨by kernel_rfl,?_⟩
          conv=>whnf
          refine ⟨hp35,?_⟩
          conv=>whnf
          refine ⟨trivial,?_⟩
        rotate_right
        focus
         conv=>whnf
         refine ⟨?_,?_⟩
         rotate_left
         focus
          conv=>whnf
          refine ⟨by kernel_rfl,?_⟩
          conv=>whnf
          refine ⟨hp33,?_⟩
          conv=>whnf
          intro fp46
          conv=>whnf
          refine ⟨by kernel_rfl,?_⟩
          conv=>whnf
          refine ⟨hp35,?_⟩
          conv=>whnf
          refine ⟨trivial,?_⟩
         rotate_right
         focus
          conv=>whnf
          refine ⟨by kernel_rfl,?_⟩
          conv=>whnf
          refine ⟨hp33,?_⟩
          conv=>whnf
          intro fp46
          conv=>whnf
          refine ⟨?_,?_⟩
          rotate_left
          focus
           conv=>whnf
           refine ⟨by kernel_rfl,?_⟩
           conv=>whnf
           refine ⟨hp35,?_⟩
           conv=>whnf
           refine ⟨trivial,?_⟩
          rotate_right
          focus
           conv=>whnf
           refine ⟨by kernel_rfl,?_⟩
           conv=>whnf
           refine ⟨hp35,?_⟩
           conv=>whnf
           refine ⟨trivial,?_⟩
       rotate_right
       focus
        conv=>whnf
        refine ⟨by kernel_rfl,?_⟩
        conv=>whnf
        refine ⟨hp33,?_⟩
        conv=>whnf
        intro fp46
        conv=>whnf
        refine ⟨?_,?_⟩
        rotate_left
        focus
         conv=>whnf
         refine ⟨by kernel_rfl,?_⟩
         conv=>whnf
         refine ⟨hp35,?_⟩
         conv=>whnf
         refine ⟨trivial,?_⟩
        rotate_right
        focus
         conv=>whnf
         refine ⟨?_,?_⟩
         rotate_left
         focus
          conv=>whnf
          refine ⟨by kernel_rfl,?_⟩
          conv=>whnf
          refine ⟨hp35,?_⟩
          conv=>whnf
          refine ⟨trivial,?_⟩
         rotate_right
         focus
          conv=>whnf
          refine ⟨by kernel_rfl,?_⟩
          conv=>whnf
          refine ⟨hp35,?_⟩
          conv=>whnf
          refine ⟨trivial,?_⟩
      all_goals
       conv=>whnf
       refine ⟨by kernel_rfl,?_⟩
       conv=>whnf
       refine ⟨by kernel_rfl,?_⟩
       conv=>whnf
       refine ⟨by kernel_rfl,?_⟩
       conv=>whnf
       refine Zc5 h (fun l07Lumped0 hb36 h=>?_)
       conv=>whnf
       intro fp37
       conv=>whnf
       refine ⟨by kernel_rfl,?_⟩
       conv=>whnf
       refine ZpS h (fun hp38 h=>?_)
       conv=>whnf
       intro fp39
       conv=>whnf
       refine Zc5 h (fun l08Attach0 hb40 h=>?_)
       conv=>whnf
       intro fp41
       conv=>whnf
       intro fp42
       conv=>whnf
       intro fp43
       conv=>whnf
       refine ⟨trivial,?_⟩
       conv=>whnf
       cases h
       exact hK
theorem ZrZ (rec0:(List Zl)→Int→Option Xu) (hrec:Sq 173 (Ze9 rec0)):Sq 173 (Ze9 (Zbp rec0)):=by
 refine Zf Zq (Zd hrec Zk) mixed {} (fn:=Tryz.f173) Tryz.func173 (by kernel_rfl) (by kernel_rfl) ?_
 rintro ⟨list0,k0,⟨⟩⟩ K ⟨r,h,hK⟩
 change Zbp rec0 list0 k0=some r at h
 unfold Zbp at h
 conv=>whnf
 refine vAt h (fun x0 he0a he0b he0x h=>?_)
 conv=>whnf
 refine ZsV h (fun h=>?_) (fun h=>?_)
 conv=>whnf
 cases h
 exact hK
 conv=>whnf
 refine Zc5 h (fun r0 hb1 h=>?_)
 conv=>whnf
 refine ZsV h (fun h=>?_) (fun h=>?_)
 conv=>whnf
 refine ⟨by decide,?_⟩
 conv=>whnf
 refine ZuI h (fun h=>?_) (fun h=>?_)
 conv=>whnf
 cases h
 exact hK
 conv=>whnf
 cases h
 exact hK
 conv=>whnf
 refine ZuI h (fun h=>?_) (fun h=>?_)
 conv=>whnf
 cases h
 exact hK
 conv=>whnf
 cases h
 exact hK
theorem w82:Sq 173 c82:=by
 have hn:∀ n,Sq 173 (Ze9 (Zbt n)):=by
  intro n
  induction n with
  | zero =>
  refine Zf Zq Zk mixed {} (fn:=Tryz.f173) Tryz.func173 (by kernel_rfl) (by kernel_rfl) ?_
  rintro ⟨list0,k0,⟨⟩⟩ K ⟨r,h,hK⟩
  cases h
  | succ n ih=>exact ZrZ _ ih
 refine ⟨(hn 0).1,?_⟩
 rintro w S vs ⟨list0,k0,⟨⟩⟩ fp K h1 h2 h3 h4 ⟨r,h,hK⟩
 obtain ⟨n,hr⟩:=ZsX h
 exact (hn n).2 w S vs _ fp K h1 h2 h3 h4 ⟨r,hr,hK⟩
end Go.Proofs.YthkhedimjmkifaaGreatDoor
