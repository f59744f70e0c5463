/-
  The functions keep their contracts, if what they call does. Printed by program.
-/
import Derived.Test.YthkhedimjmkifaaGreatDoorM
import Derived.KernelRfl
namespace Go.Proofs.YthkhedimjmkifaaGreatDoor
open Go Go.Sx
set_option maxRecDepth 100000
set_option maxHeartbeats 3200000
set_option linter.unusedVariables false
set_option linter.unusedSimpArgs false
structure Ws3:Prop where
 w185:Sq 248 ZDD
 w253:Sq 122 ZEj→Sq 123 ZBF→Sq 124 ZBb→Sq 59 ZCQ
 w190:Sq 128 ZC4→Sq 159 ZCL→Sq 231 ZDG→Sq 249 ZEx→Sq 181 ZDW
 w254:Sq 159 ZCL→Sq 162 ZDT
 w161:Sq 343 c157→Sq 344 c160→Sq 324 ZCU
 w154:Sq 371 ZFi→Sq 359 c154
 w232:Sq 306 ZCS→Sq 269 c232
 w235:Sq 193 ZCw→Sq 194 c234→Sq 100 ZCD
 w220:Sq 263 ZDf
 w260:Sq 60 ZEg→Sq 196 ZEr→Sq 195 ZEs→Sq 86 ZEa→Sq 39 ZE3→Sq 101 ZE9
 w231:Sq 304 ZDo→Sq 268 ZEq
 w184:Sq 177 ZEf→Sq 159 ZCL→Sq 178 c183→Sq 97 ZB9
 w167:Sq 267 ZzY→Sq 323 ZE4→Sq 324 ZCU→Sq 245 c131→Sq 325 ZCb→Sq 288 c167
 w198:Sq 251 ZFh→Sq 252 ZEN→Sq 184 c198
 w243:Sq 272 ZDR→Sq 195 ZEs
 w270:Sq 11 ZEk→Sq 82 ZEt→Sq 26 ZEu
 w182:Sq 245 c131→Sq 246 c182
 w242:Sq 272 ZDR
 w225:Sq 301 ZDj
 w138:Sq 357 c138
 w206:Sq 245 c131→Sq 297 c206
 w209:Sq 245 c131→Sq 258 ZC8
 w170:Sq 264 ZEZ
 w222:Sq 327 ZEA→Sq 299 c222
 w201:Sq 187 ZCJ→Sq 186 c201
 w211:Sq 191 c210→Sq 190 ZER
 w278:Sq 278 ZD0→Sq 279 ZDM→Sq 166 ZEG→Sq 212 ZFd
 w295:Sq 166 ZEG→Sq 135 ZPY
 w294:Sq 134 ZPv→Sq 65 ZPz
 w282:Sq 213 ZCK→Sq 130 ZDB
 w271:Sq 312 ZE0
 w284:Sq 214 ZDk
 w274:Sq 166 ZEG→Sq 355 ZEd
 w287:Sq 166 ZEG→Sq 89 ZES
 w288:Sq 89 ZES→Sq 63 ZFc
 w326:Sq 314 ZPM→Sq 282 ZQj
 w340:Sq 142 ZP3→Sq 150 ZPL→Sq 78 ZQp
 w307:Sq 280 ZPJ→Sq 217 ZPC
 w315:Sq 68 ZP5→Sq 69 ZP9→Sq 70 ZQa→Sq 21 ZQb
 w308:Sq 142 ZP3→Sq 216 ZPB→Sq 217 ZPC→Sq 141 ZPI→Sq 137 ZP4
 w316:Sq 142 ZP3→Sq 71 ZQc
 w319:Sq 142 ZP3→Sq 74 ZQe
 w311:Sq 142 ZP3→Sq 139 ZP7
 w306:Sq 141 ZPI→Sq 280 ZPJ
 w8:Sq 197 c7→Sq 102 c8
 w24:Sq 108 c24
 w15:Sq 103 c11→Sq 104 c12→Sq 105 c14→Sq 43 c15
 w23:Sq 107 c22→Sq 47 c23
 w9:Sq 102 c8→Sq 42 c9
 w12:Sq 104 c12
 w50:Sq 118 c49→Sq 55 c50
 w56:Sq 121 c56
 w45:Sq 115 c41→Sq 116 c42→Sq 117 c44→Sq 53 c45
 w59:Sq 84 c46→Sq 31 c59
 w40:Sq 157 c32→Sq 203 c40
 w32:Sq 157 c32
 w43:Sq 204 c43
 w42:Sq 116 c42
 w34:Sq 354 c33→Sq 337 c34
 w46:Sq 157 c32→Sq 84 c46
 w237:Sq 126 ZCF
 w244:Sq 206 ZCX
 w142:Sq 326 c141→Sq 289 ZEP
 w135:Sq 306 ZCS→Sq 295 ZzS
 w202:Sq 186 c201→Sq 253 ZE2
 w212:Sq 190 ZER→Sq 257 c212
 w230:Sq 305 c229→Sq 304 ZDo
 w153:Sq 372 c152→Sq 371 ZFi
 w141:Sq 292 ZCx→Sq 326 c141
 w71:Sq 320 c64→Sq 237 c62→Sq 172 c63→Sq 321 c69→Sq 322 c70→Sq 287 c71
 w83:Sq 170 c80→Sq 171 c81→Sq 172 c63→Sq 173 c82→Sq 92 c83
 w84:Sq 172 c63→Sq 237 c62→Sq 174 c84
 w75:Sq 234 c72→Sq 235 c73→Sq 236 c74→Sq 167 c75
 w72:Sq 287 c71→Sq 234 c72
 w126:Sq 36 c91→Sq 37 ZEe→Sq 9 ZDw
 w78:Sq 172 c63→Sq 168 c78
 w122:Sq 222 ZFf→Sq 36 c91→Sq 223 ZE1→Sq 49 ZC6→Sq 152 ZCu→Sq 151 ZDb
 w65:Sq 172 c63→Sq 376 c65
 w107:Sq 201 c107
 w108:Sq 201 c107→Sq 309 ZCC
 w113:Sq 201 c107→Sq 113 ZA2
 w100:Sq 316 c95→Sq 169 c77→Sq 340 c99→Sq 319 ZDO
 w90:Sq 94 c76→Sq 172 c63→Sq 176 c89→Sq 96 c90
 w129:Sq 154 c127→Sq 81 ZBK
 w125:Sq 79 c124→Sq 37 ZEe
set_option maxHeartbeats 100000000 in
theorem ws3:Ws3:=by
 refine ⟨(Zf Zq Zk mixed {} Tryz.func248 (hvc:=?_)),
 (fun q0 q1 q2=>Zf Xa (Zd q0 (Zd q1 (Zd q2 Zk))) mixed {loops:=[(0,[.reg 16 (.dat Iq),.cello 1003 4 (.ol 86 (Zl3))])],draws:=[(1,[0,1,3,0,8,31,63,0,255],.op 0 (.op 1 (.op 3 (.op 4 (.alt 2 (.alt 5 (.op 6 (.alt 7 (.alt 8 (.done) (.done)) (.done))) (.alt 7 (.alt 5 (.op 6 (.alt 8 (.done) (.done))) (.done)) (.done))) (.alt 7 (.alt 2 (.alt 5 (.op 6 (.alt 8 (.done) (.done))) (.done)) (.done)) (.done))))))),(5,[0,1,0,4,12,31,63,127],.op 0 (.op 1 (.op 2 (.alt 3 (.alt 4 (.alt 5 (.op 6 (.alt 7 (.done) (.done))) (.done)) (.done)) (.done)))))]} Tryz.func59 (hvc:=?_)),
 (fun q0 q1 q2 q3=>Zf Zq (Zd q0 (Zd q1 (Zd q2 (Zd q3 Zk)))) mixed {loops:=[(0,[.reg 27 (.dat Iq),.ent 2 (nat_lit 2) (.flat (Ty.int IntKind.i64))]),(2,[.reg 10 (.dat Iq),.ent 2 (nat_lit 2) (.flat (Ty.int IntKind.i64))])],draws:=[(7,[0,0,2,0,14,30,63,127,0,256,0,1024,0,0,12288,28672,65280,131071,262143,524287],.op 0 (.op 1 (.op 2 (.op 3 (.op 4 (.op 5 (.op 6 (.op 7 (.op 8 (.op 9 (.op 10 (.op 11 (.op 12 (.op 13 (.op 14 (.op 15 (.alt 16 (.op 17 (.op 18 (.alt 19 (.done) (.done)))) (.done)))))))))))))))))),(12,[0,0,2,0,14,30,63,127,0,0,768,1792,4095,8191,16383],.op 0 (.op 1 (.op 2 (.op 3 (.op 4 (.op 5 (.op 6 (.op 7 (.op 8 (.op 9 (.op 10 (.op 11 (.op 12 (.op 13 (.alt 14 (.done) (.done))))))))))))))))]} Tryz.func181 (hvc:=?_)),
 (fun q0=>Zf Zq (Zd q0 Zk) mixed {loops:=[(0,[.reg 16 (.dat Iq),.entm 1 (ZsE.ty) (ZsE.ety),.ent 2 (nat_lit 3) (.flat ZtB.ety)])],draws:=[(7,[0,0,2,0,8,30,0,64,0,256,960,1984,4032,0,0,16384,57344,122880,262080,524224,1048575],.op 0 (.op 1 (.op 2 (.op 3 (.op 4 (.op 5 (.op 6 (.op 7 (.op 8 (.op 9 (.op 10 (.op 11 (.op 12 (.op 13 (.op 14 (.op 15 (.op 16 (.op 17 (.op 18 (.op 19 (.alt 20 (.done) (.done))))))))))))))))))))))]} Tryz.func162 (hvc:=?_)),
 (fun q1 q0=>Zf Zq (Zd q1 (Zd q0 Zk)) mixed {loops:=[(0,[.reg 8 (.dat Iq)])]} Tryz.func324 (hvc:=?_)),
 (fun q0=>Zf Zq (Zd q0 Zk) mixed {} Tryz.func359 (hvc:=?_)),
 (fun q0=>Zf Zq (Zd q0 Zk) mixed {} Tryz.func269 (hvc:=?_)),
 (fun q1 q0=>Zf Zq (Zd q1 (Zd q0 Zk)) mixed {} Tryz.func100 (hvc:=?_)),
 (Zf Zq Zk mixed {} Tryz.func263 (hvc:=?_)),
 (fun q1 q0 q2 q3 q4=>Zf Xa (Zd q1 (Zd q0 (Zd q2 (Zd q3 (Zd q4 Zk))))) mixed {draws:=[(2,[0,0,3,7,15,31,63,63,255,63,1023,2047,4095],.op 0 (.op 1 (.alt 2 (.alt 3 (.op 4 (.op 5 (.op 6 (.op 7 (.op 9 (.alt 8 (.alt 10 (.op 11 (.op 12 (.done))) (.done)) (.done))))))) (.done)) (.done))))]} Tryz.func101 (hvc:=?_)),
 (fun q0=>Zf Zq (Zd q0 Zk) mixed {} Tryz.func268 (hvc:=?_)),
 (fun q1 q0 q2=>Zf Zq (Zd q1 (Zd q0 (Zd q2 Zk))) mixed {loops:=[(0,[.reg 32 (.dat Iq),.ent 1 (nat_lit 2) (.flat Zvn.ety)]),(2,[.reg 50 (.dat Iq)])],draws:=[(13,[0,0,0,6,14,31,63],.op 0 (.op 1 (.op 2 (.op 3 (.op 4 (.alt 5 (.op 6 (.done)) (.done)))))))]} Tryz.func97 (hvc:=?_)),
 (fun q3 q2 q1 q4 q0=>Zf Zq (Zd q3 (Zd q2 (Zd q1 (Zd q4 (Zd q0 Zk))))) mixed {} Tryz.func288 (hvc:=?_)),
 (fun q1 q0=>Zf Zq (Zd q1 (Zd q0 Zk)) mixed {loops:=[(0,[.reg 3 (.own (.ol 9 (.flat (.str)))),.reg 11 (.dat Iq)])]} Tryz.func184 (hvc:=?_)),
 (fun q0=>Zf Xa (Zd q0 (ZAb (ZBC Xa Zk mixed {draws:=[(0,[0,0,0,4,12,30,62,127,255],.op 0 (.op 1 (.op 2 (.op 3 (.op 4 (.op 5 (.op 6 (.op 7 (.alt 8 (.done) (.done))))))))))]} Tryz.func271 (by kernel_rfl) (by kernel_rfl)) Zk)) mixed {loops:=[(0,[.reg 18 (.dat Iq),.ent 0 (nat_lit 150) (.flat XF),.cell 7 0 .bool]),(2,[.reg 36 (.dat Iq),.ent 1 (nat_lit 187) (.flat Yg),.cell 7 0 .bool]),(4,[.reg 54 (.dat Iq),.ent 2 (nat_lit 187) (.flat Yg),.cell 7 0 .bool]),(6,[.reg 72 (.dat Iq),.cell 7 0 (.bool),.ent 3 (nat_lit 155) (Dp.pair (Dp.flat (Ty.int IntKind.i64)) (Dp.pair (Dp.flat (Ty.int IntKind.i64)) (Dp.pair (Dp.ol (2:Go.TypeId) (Dp.flat (Ty.int IntKind.i64))) (Dp.pair (Dp.ol (2:Go.TypeId) (Dp.flat (Ty.int IntKind.i64))) (Dp.pair (Dp.ol (2:Go.TypeId) (Dp.flat (Ty.int IntKind.i64))) (Dp.flat Ty.unit))))))])]} Tryz.func195 (hvc:=?_)),
 (fun q0 q1=>Zf Xa (Zd q0 (Zd q1 Zk)) mixed {} Tryz.func26 (hvc:=?_)),
 (fun q0=>Zf Zq (Zd q0 Zk) mixed {loops:=[(0,[.reg 8 (.dat Iq)])]} Tryz.func246 (hvc:=?_)),
 (Zf Xa Zk mixed {loops:=[(0,[.reg 9 (.dat Iq),.ent 0 (nat_lit 2) (.flat (Ty.int IntKind.i64))])]} Tryz.func272 (hvc:=?_)),
 (Zf Zq Zk mixed {} Tryz.func301 (hvc:=?_)),
 (Zf Zq Zk mixed {} Tryz.func357 (hvc:=?_)),
 (fun q0=>Zf Zq (Zd q0 Zk) mixed {} Tryz.func297 (hvc:=?_)),
 (fun q0=>Zf Zq (Zd q0 Zk) mixed {} Tryz.func258 (hvc:=?_)),
 (Zf Zq Zk mixed {} Tryz.func264 (hvc:=?_)),
 (fun q0=>Zf Zq (Zd q0 Zk) mixed {} Tryz.func299 (hvc:=?_)),
 (fun q0=>Zf Zq (Zd q0 Zk) mixed {} Tryz.func186 (hvc:=?_)),
 (fun q0=>Zf Zq (Zd q0 Zk) mixed {} Tryz.func190 (hvc:=?_)),
 (fun q1 q2 q0=>Zf Zq (Zd q1 (Zd q2 (Zd q0 Zk))) mixed {} Tryz.func212 (hvc:=?_)),
 (fun q0=>Zf Zq (Zd q0 Zk) mixed {} Tryz.func135 (hvc:=?_)),
 (fun q0=>Zf Zq (Zd q0 Zk) mixed {loops:=[(0,[.reg 5 (.dat Iq)])],draws:=[(6,[0,0,3,7,0,0,48,112,255,511],.op 0 (.op 1 (.op 2 (.op 3 (.op 4 (.op 5 (.op 6 (.op 7 (.alt 8 (.op 9 (.done)) (.done))))))))))]} Tryz.func65 (hvc:=?_)),
 (fun q0=>Zf Zq (Zd q0 Zk) mixed {loops:=[(0,[.reg 5 (.dat Iq)])],draws:=[(6,[0,0,3,7,0,0,48,112,255,511],.op 0 (.op 1 (.op 2 (.op 3 (.op 4 (.op 5 (.op 6 (.op 7 (.alt 8 (.op 9 (.done)) (.done))))))))))]} Tryz.func130 (hvc:=?_)),
 (Zf Zq Zk mixed {} Tryz.func312 (hvc:=?_)),
 (Zf Zq Zk mixed {} Tryz.func214 (hvc:=?_)),
 (fun q0=>Zf Zq (Zd q0 Zk) mixed {} Tryz.func355 (hvc:=?_)),
 (fun q0=>Zf Zq (Zd q0 Zk) mixed {} Tryz.func89 (hvc:=?_)),
 (fun q0=>Zf Zq (Zd q0 Zk) mixed {loops:=[(0,[.reg 5 (.dat Iq)])],draws:=[(6,[0,0,3,7,0,0,48,112,255,511],.op 0 (.op 1 (.op 2 (.op 3 (.op 4 (.op 5 (.op 6 (.op 7 (.alt 8 (.op 9 (.done)) (.done))))))))))]} Tryz.func63 (hvc:=?_)),
 (fun q0=>Zf Zq (Zd q0 Zk) mixed {loops:=[(0,[.reg 1 (.dat Iq),.reg 5 (.dat Iq)])]} Tryz.func282 (hvc:=?_)),
 (fun q1 q0=>Zf Zq (Zd q1 (Zd q0 Zk)) mixed {loops:=[(0,[.reg 1 (.dat Iq),.reg 5 (.dat Iq)])],draws:=[(19,[0,0,3,7,15,0,32,127],.op 0 (.op 1 (.op 2 (.op 3 (.op 4 (.op 5 (.alt 6 (.op 7 (.done)) (.done))))))))]} Tryz.func78 (hvc:=?_)),
 (fun q0=>Zf Xa (Zd q0 Zk) mixed {loops:=[(0,[.reg 1 (.dat Iq),.reg 5 (.dat Iq),.ent 0 (nat_lit 289) (Dp.pair (Dp.flat (Ty.int IntKind.i64)) (Dp.pair (Dp.flat (Ty.int IntKind.i64)) (Dp.pair (Dp.flat (Ty.int IntKind.i64)) (Dp.pair (Dp.flat (Ty.int IntKind.i64)) (Dp.pair (Dp.ol (341:Go.TypeId) Zgw) (Dp.pair (Dp.ol (341:Go.TypeId) Zgw) (Dp.flat Ty.unit)))))))])]} Tryz.func217 (hvc:=?_)),
 (fun q0 q1 q2=>Zf Xa (Zd q0 (Zd q1 (Zd q2 Zk))) mixed {} Tryz.func21 (hvc:=?_)),
 (fun q1 q2 q3 q0=>Zf Xa (Zd q1 (Zd q2 (Zd q3 (Zd q0 Zk)))) mixed {loops:=[(0,[.reg 1 (.dat Iq),.reg 5 (.dat Iq),.ent 0 (nat_lit 277) (Dp.pair (Dp.flat Ty.str) (Dp.pair (Dp.flat (Ty.int IntKind.i64)) (Dp.pair (Dp.ol (285:Go.TypeId) (Dp.flat ZgP)) (Dp.pair (Dp.ol (289:Go.TypeId) Zxz) (Dp.pair (Dp.ol (2:Go.TypeId) (Dp.flat (Ty.int IntKind.i64))) (Dp.pair (Dp.flat (Ty.int IntKind.i64)) (Dp.pair (Dp.flat (Ty.int IntKind.i64)) (Dp.flat Ty.unit))))))))])]} Tryz.func137 (hvc:=?_)),
 (fun q0=>Zf Xa (Zd q0 Zk) mixed {loops:=[(0,[.reg 1 (.dat Iq),.reg 5 (.dat Iq),.ent 0 (nat_lit 150) (.flat XF)])]} Tryz.func71 (hvc:=?_)),
 (fun q0=>Zf Xa (Zd q0 Zk) mixed {loops:=[(0,[.reg 1 (.dat Iq),.reg 5 (.dat Iq),.ent 0 (nat_lit 193) (.flat Xf)])]} Tryz.func74 (hvc:=?_)),
 (fun q0=>Zf Xa (Zd q0 Zk) mixed {loops:=[(0,[.reg 1 (.dat Iq),.reg 5 (.dat Iq),.ent 0 (nat_lit 9) (.flat Ty.str)])]} Tryz.func139 (hvc:=?_)),
 (fun q0=>Zf Xa (Zd q0 Zk) mixed {loops:=[(0,[.reg 1 (.dat Iq),.reg 5 (.dat Iq),.ent 0 (nat_lit 341) (Dp.pair (Dp.ol (2:Go.TypeId) (Dp.flat (Ty.int IntKind.i64))) (Dp.pair (Dp.ol (2:Go.TypeId) (Dp.flat (Ty.int IntKind.i64))) (Dp.pair (Dp.ol (2:Go.TypeId) (Dp.flat (Ty.int IntKind.i64))) (Dp.flat Ty.unit))))])]} Tryz.func280 (hvc:=?_)),
 (fun q0=>Zf Zq (Zd q0 Zk) mixed {loops:=[(0,[.reg 1 (.dat Iq),.reg 5 (.dat Iq)])]} Tryz.func102 (hvc:=?_)),
 (Zf Zq Zk mixed {} Tryz.func108 (hvc:=?_)),
 (fun q0 q1 q2=>Zf Zq (Zd q0 (Zd q1 (Zd q2 Zk))) mixed {} Tryz.func43 (hvc:=?_)),
 (fun q0=>Zf Zq (Zd q0 Zk) mixed {loops:=[(0,[.reg 1 (.dat Iq),.reg 5 (.dat Iq)])]} Tryz.func47 (hvc:=?_)),
 (fun q0=>Zf Zq (Zd q0 Zk) mixed {} Tryz.func42 (hvc:=?_)),
 (Zf Zq Zk mixed {loops:=[(0,[.reg 1 (.dat Iq),.reg 5 (.dat Iq)])]} Tryz.func104 (hvc:=?_)),
 (fun q0=>Zf Zq (Zd q0 Zk) mixed {loops:=[(0,[.reg 4 (.dat Iq),.ent 0 (nat_lit 150) (.flat ZBx.ety)])]} Tryz.func55 (hvc:=?_)),
 (Zf Zq Zk mixed {} Tryz.func121 (hvc:=?_)),
 (fun q0 q1 q2=>Zf Xa (Zd q0 (Zd q1 (Zd q2 Zk))) mixed {} Tryz.func53 (hvc:=?_)),
 (fun q0=>Zf Zq (Zd q0 Zk) mixed {} Tryz.func31 (hvc:=?_)),
 (fun q0=>Zf Zq (Zd q0 Zk) mixed {} Tryz.func203 (hvc:=?_)),
 (Zf Zq Zk mixed {loops:=[(0,[.reg 4 (.dat Iq),.ent 0 (nat_lit 2) (.flat Zvn.ety)])]} Tryz.func157 (hvc:=?_)),
 (Zf Zq Zk mixed {} Tryz.func204 (hvc:=?_)),
 (Zf Zq Zk mixed {loops:=[(0,[.reg 4 (.dat Iq),.ent 0 (nat_lit 9) (.flat ZAM.ety)])]} Tryz.func116 (hvc:=?_)),
 (fun q0=>Zf Xa (Zd q0 Zk) mixed {loops:=[(0,[.reg 4 (.dat Iq),.ent 0 (nat_lit 341) Zgw])]} Tryz.func337 (hvc:=?_)),
 (fun q0=>Zf Zq (Zd q0 Zk) mixed {} Tryz.func84 (hvc:=?_)),
 (Zf Zq Zk mixed {} Tryz.func126 (hvc:=?_)),
 (Zf Zq Zk mixed {} Tryz.func206 (hvc:=?_)),
 (fun q0=>Zf Zq (Zd q0 Zk) mixed {} Tryz.func289 (hvc:=?_)),
 (fun q0=>Zf Zq (Zd q0 Zk) mixed {} Tryz.func295 (hvc:=?_)),
 (fun q0=>Zf Zq (Zd q0 Zk) mixed {loops:=[(0,[.reg 8 (.dat Iq)])]} Tryz.func253 (hvc:=?_)),
 (fun q0=>Zf Zq (Zd q0 Zk) mixed {loops:=[(0,[.reg 8 (.dat Iq)])]} Tryz.func257 (hvc:=?_)),
 (fun q0=>Zf Zq (Zd q0 Zk) mixed {loops:=[(0,[.reg 8 (.dat Iq)])]} Tryz.func304 (hvc:=?_)),
 (fun q0=>Zf Zq (Zd q0 Zk) mixed {loops:=[(0,[.reg 8 (.dat Iq)])]} Tryz.func371 (hvc:=?_)),
 (fun q0=>Zf Zq (Zd q0 Zk) mixed {loops:=[(0,[.reg 8 (.dat Iq)])]} Tryz.func326 (hvc:=?_)),
 (fun q1 q2 q4 q3 q0=>Zf Zq (Zd q1 (Zd q2 (Zd q4 (Zd q3 (Zd q0 Zk))))) mixed {loops:=[(0,[.reg 5 (.dat Iq)]),(2,[.reg 7 (.dat Iq)]),(5,[.reg 9 (.dat Iq)])],draws:=[(13,[0,1,0,7,15,31,0,64,255,511,1023,2047,1023,8191,16383,32767,1023,66559,262143,524287,1048575,2097151,4194303,2097151,16777215,33554431,67108863,2097151,136314879,536870911,1073741823],.op 0 (.op 1 (.op 2 (.op 3 (.op 4 (.op 5 (.op 6 (.op 7 (.op 8 (.op 9 (.op 10 (.op 11 (.op 12 (.op 13 (.op 14 (.op 15 (.op 16 (.op 17 (.op 18 (.op 19 (.op 20 (.op 21 (.op 22 (.op 23 (.op 24 (.op 25 (.op 26 (.op 27 (.op 28 (.op 29 (.op 30 (.done)))))))))))))))))))))))))))))))),(25,[0,1,3,7,15,31,63,127,255,511,1023,2047,4095,511,8703,25087,57855,131071,262143,524287,1048575,2097151,4194303,8388607,16777215,33554431],.op 0 (.op 1 (.op 2 (.op 3 (.op 4 (.op 5 (.op 6 (.op 7 (.op 8 (.op 9 (.op 10 (.op 11 (.op 12 (.op 13 (.op 14 (.op 15 (.op 16 (.op 17 (.op 18 (.op 19 (.op 20 (.op 21 (.op 22 (.op 23 (.op 24 (.op 25 (.done)))))))))))))))))))))))))))]} Tryz.func287 (hvc:=?_)),
 (fun q1 q0 q2 q3=>Zf Zq (Zd q1 (Zd q0 (Zd q2 (Zd q3 Zk)))) mixed {loops:=[(0,[.reg 3 (.dat Iq)]),(2,[.reg 5 (.dat Iq)])],draws:=[(10,[0,0,3,7,15,0,32,127],.op 0 (.op 1 (.op 2 (.op 3 (.op 4 (.op 5 (.op 6 (.op 7 (.done)))))))))]} Tryz.func92 (hvc:=?_)),
 (fun q1 q0=>Zf Zq (Zd q1 (Zd q0 Zk)) mixed {loops:=[(0,[.reg 4 (.dat Iq)])]} Tryz.func174 (hvc:=?_)),
 (fun q0 q1 q2=>Zf Zq (Zd q0 (Zd q1 (Zd q2 Zk))) mixed {loops:=[(0,[.reg 5 (.own (.ol 9 (.flat (.str)))),.reg 6 (.dat Iq)]),(2,[.reg 7 (.own (.ol 9 (.flat (.str)))),.reg 8 (.dat Iq)]),(4,[.reg 10 (.dat Iq),.ent 6 (nat_lit 2) (.flat Zvn.ety)]),(6,[.reg 12 (.dat Iq),.ent 6 (nat_lit 2) (.flat Zvn.ety)]),(8,[.reg 13 (.dat Iq)])]} Tryz.func167 (hvc:=?_)),
 (fun q0=>Zf Zq (Zd q0 Zk) mixed {loops:=[(0,[.reg 3 (.dat Iq)]),(2,[.reg 4 (.dat Iq)])],draws:=[(9,[0,1,0,7,15,31,0,64,0,448,960,1984,4095],.op 0 (.op 1 (.op 2 (.op 3 (.op 4 (.op 5 (.op 6 (.op 7 (.op 8 (.op 9 (.op 10 (.op 11 (.op 12 (.done))))))))))))))]} Tryz.func234 (hvc:=?_)),
 (fun q1 q0=>Zf Zq (Zd q1 (Zd q0 Zk)) mixed {} Tryz.func9 (hvc:=?_)),
 (fun q0=>Zf Zq (Zd q0 Zk) mixed {loops:=[(0,[.reg 6 (.dat Iq)]),(2,[.reg 7 (.dat Iq)])]} Tryz.func168 (hvc:=?_)),
 (fun q1 q4 q0 q2 q3=>Zf Xa (Zd q1 (Zd q4 (Zd q0 (Zd q2 (Zd q3 Zk))))) mixed {draws:=[(6,[0,0,3,0,15,31,63,63,0,383,1023],.op 0 (.op 1 (.op 3 (.alt 2 (.alt 4 (.op 5 (.op 6 (.op 7 (.alt 8 (.alt 9 (.op 10 (.done)) (.done)) (.done))))) (.alt 8 (.alt 4 (.op 5 (.op 6 (.op 7 (.alt 9 (.op 10 (.done)) (.done))))) (.done)) (.done))) (.alt 8 (.alt 2 (.alt 4 (.op 5 (.op 6 (.op 7 (.alt 9 (.op 10 (.done)) (.done))))) (.done)) (.done)) (.done)))))),(7,[0,1,3,7,7,31,7,127,255,511],.op 0 (.op 1 (.op 2 (.op 3 (.op 4 (.op 6 (.alt 5 (.alt 7 (.op 8 (.op 9 (.done))) (.done)) (.done))))))))]} Tryz.func151 (hvc:=?_)),
 (fun q0=>Zf Zq (Zd q0 Zk) mixed {loops:=[(0,[.reg 3 (.dat Iq)])],draws:=[(4,[0,0,3,7,15,31,63,127,255,511,1023,1023,3071,8191,16383,1023,1023,99327,230399,524287,1048575,2097151],.op 0 (.op 1 (.op 2 (.op 3 (.alt 4 (.op 5 (.op 6 (.op 7 (.op 8 (.op 9 (.op 10 (.op 11 (.op 12 (.op 13 (.op 14 (.op 15 (.op 16 (.op 17 (.op 18 (.op 19 (.op 20 (.op 21 (.done)))))))))))))))))) (.done))))))]} Tryz.func376 (hvc:=?_)),
 (Zf Zq Zk mixed {} Tryz.func201 (hvc:=?_)),
 (fun q0=>Zf Zq (Zd q0 Zk) mixed {draws:=[(1,[0,1,3,0,8,31,0,64,255,511,1023],.op 0 (.op 1 (.op 3 (.op 4 (.op 6 (.op 7 (.alt 2 (.alt 5 (.alt 8 (.op 9 (.alt 10 (.done) (.done))) (.done)) (.done)) (.done))))))))]} Tryz.func309 (hvc:=?_)),
 (fun q0=>Zf Zq (Zd q0 Zk) mixed {draws:=[(1,[0,1,3,0,8,31,0,64,255,0,512,2047,4095,8191],.op 0 (.op 1 (.op 3 (.op 4 (.op 6 (.op 7 (.op 9 (.op 10 (.alt 2 (.alt 5 (.alt 8 (.alt 11 (.op 12 (.alt 13 (.done) (.done))) (.done)) (.done)) (.done)) (.done))))))))))]} Tryz.func113 (hvc:=?_)),
 (fun q0 q1 q2=>Zf Zq (Zd q0 (Zd q1 (Zd q2 Zk))) mixed {draws:=[(6,[0,1,3,0,8,31,63,127,255,511,1023,2047,4095,8191,1023,32767,65535,131071,262143,524287,1048575,262143,4194303,8388607,262143,17039359,67108863,134217727,268435455,536870911,1073741823,2147483647,4294967295,536870911,17179869183,34359738367],.op 0 (.op 1 (.op 2 (.op 3 (.op 4 (.op 5 (.op 6 (.alt 7 (.op 8 (.op 9 (.op 10 (.op 11 (.op 12 (.op 13 (.op 14 (.op 15 (.op 16 (.op 17 (.op 18 (.op 19 (.op 20 (.op 21 (.op 22 (.op 23 (.op 24 (.op 25 (.op 26 (.op 27 (.op 28 (.op 29 (.op 30 (.op 31 (.op 32 (.op 33 (.op 34 (.op 35 (.done))))))))))))))))))))))))))))) (.done)))))))))]} Tryz.func319 (hvc:=?_)),
 (fun q0 q2 q1=>Zf Zq (Zd q0 (Zd q2 (Zd q1 Zk))) mixed {loops:=[(0,[.reg 10 (.dat Iq)])],draws:=[(6,[0,1,0,4,12,31,63,127,255,511,1023,2047,2047,6143,16383,32767,65535,2047,133119,524287,1048575,2097151,4194303,8388607,16777215,8388607,41943039,109051903,243269631,536870911,1073741823,2147483647],.op 0 (.op 1 (.op 2 (.op 3 (.op 4 (.alt 5 (.op 6 (.op 7 (.op 8 (.op 9 (.op 10 (.op 11 (.op 12 (.op 13 (.op 14 (.op 15 (.op 16 (.op 17 (.op 18 (.op 19 (.op 20 (.op 21 (.op 22 (.op 23 (.op 24 (.op 25 (.op 26 (.op 27 (.op 28 (.alt 29 (.op 30 (.op 31 (.done))) (.done))))))))))))))))))))))))) (.done)))))))]} Tryz.func96 (hvc:=?_)),
 (fun q0=>Zf Zq (Zd q0 Zk) mixed {loops:=[(0,[.reg 5 (.own (.ol 88 (.flat (XL)))),.reg 6 (.dat Iq)])]} Tryz.func81 (hvc:=?_)),
 (fun q0=>Zf Zq (Zd q0 Zk) mixed {loops:=[(0,[.reg 7 (.dat Iq),.cell 1003 0 (.sl (QL)),.cell 1003 1 (.sl (Yq)),.cell 1003 2 (.sl (.str)),.cell 1003 3 (.sl (Zcd)),.cell 1003 4 (.sl (Vv)),.cell 1004 0 (.sl (XF)),.cell 1004 1 (.sl (Yg)),.cell 1004 2 (.sl (Yg)),.cell 1004 3 (.sl (Yn)),.cell 1004 4 (.sl (Xf))])],draws:=[(4,[0,0,0,0,12,28,63,127,255,255,255,255,0,0,0,29183,62463,129023,262143],.op 0 (.op 1 (.op 2 (.op 3 (.op 4 (.op 5 (.alt 6 (.op 7 (.op 8 (.op 9 (.op 10 (.op 11 (.alt 12 (.alt 13 (.alt 14 (.alt 15 (.alt 16 (.alt 17 (.op 18 (.done)) (.done)) (.done)) (.done)) (.done)) (.alt 14 (.alt 13 (.alt 15 (.alt 16 (.alt 17 (.op 18 (.done)) (.done)) (.done)) (.done)) (.done)) (.done))) (.alt 13 (.alt 12 (.alt 14 (.alt 15 (.alt 16 (.alt 17 (.op 18 (.done)) (.done)) (.done)) (.done)) (.done)) (.alt 14 (.alt 12 (.alt 15 (.alt 16 (.alt 17 (.op 18 (.done)) (.done)) (.done)) (.done)) (.done)) (.done))) (.alt 14 (.alt 12 (.alt 13 (.alt 15 (.alt 16 (.alt 17 (.op 18 (.done)) (.done)) (.done)) (.done)) (.done)) (.alt 13 (.alt 12 (.alt 15 (.alt 16 (.alt 17 (.op 18 (.done)) (.done)) (.done)) (.done)) (.done)) (.done))) (.done))))))))) (.alt 12 (.alt 6 (.op 7 (.op 8 (.op 9 (.op 10 (.op 11 (.alt 13 (.alt 14 (.alt 15 (.alt 16 (.alt 17 (.op 18 (.done)) (.done)) (.done)) (.done)) (.done)) (.alt 14 (.alt 13 (.alt 15 (.alt 16 (.alt 17 (.op 18 (.done)) (.done)) (.done)) (.done)) (.done)) (.done)))))))) (.alt 13 (.alt 6 (.op 7 (.op 8 (.op 9 (.op 10 (.op 11 (.alt 14 (.alt 15 (.alt 16 (.alt 17 (.op 18 (.done)) (.done)) (.done)) (.done)) (.done))))))) (.alt 14 (.alt 6 (.op 7 (.op 8 (.op 9 (.op 10 (.op 11 (.alt 15 (.alt 16 (.alt 17 (.op 18 (.done)) (.done)) (.done)) (.done))))))) (.done)) (.done))) (.alt 14 (.alt 6 (.op 7 (.op 8 (.op 9 (.op 10 (.op 11 (.alt 13 (.alt 15 (.alt 16 (.alt 17 (.op 18 (.done)) (.done)) (.done)) (.done)) (.done))))))) (.alt 13 (.alt 6 (.op 7 (.op 8 (.op 9 (.op 10 (.op 11 (.alt 15 (.alt 16 (.alt 17 (.op 18 (.done)) (.done)) (.done)) (.done))))))) (.done)) (.done))) (.done)))) (.alt 13 (.alt 6 (.op 7 (.op 8 (.op 9 (.op 10 (.op 11 (.alt 12 (.alt 14 (.alt 15 (.alt 16 (.alt 17 (.op 18 (.done)) (.done)) (.done)) (.done)) (.done)) (.alt 14 (.alt 12 (.alt 15 (.alt 16 (.alt 17 (.op 18 (.done)) (.done)) (.done)) (.done)) (.done)) (.done)))))))) (.alt 12 (.alt 6 (.op 7 (.op 8 (.op 9 (.op 10 (.op 11 (.alt 14 (.alt 15 (.alt 16 (.alt 17 (.op 18 (.done)) (.done)) (.done)) (.done)) (.done))))))) (.alt 14 (.alt 6 (.op 7 (.op 8 (.op 9 (.op 10 (.op 11 (.alt 15 (.alt 16 (.alt 17 (.op 18 (.done)) (.done)) (.done)) (.done))))))) (.done)) (.done))) (.alt 14 (.alt 6 (.op 7 (.op 8 (.op 9 (.op 10 (.op 11 (.alt 12 (.alt 15 (.alt 16 (.alt 17 (.op 18 (.done)) (.done)) (.done)) (.done)) (.done))))))) (.alt 12 (.alt 6 (.op 7 (.op 8 (.op 9 (.op 10 (.op 11 (.alt 15 (.alt 16 (.alt 17 (.op 18 (.done)) (.done)) (.done)) (.done))))))) (.done)) (.done))) (.done)))) (.alt 14 (.alt 6 (.op 7 (.op 8 (.op 9 (.op 10 (.op 11 (.alt 12 (.alt 13 (.alt 15 (.alt 16 (.alt 17 (.op 18 (.done)) (.done)) (.done)) (.done)) (.done)) (.alt 13 (.alt 12 (.alt 15 (.alt 16 (.alt 17 (.op 18 (.done)) (.done)) (.done)) (.done)) (.done)) (.done)))))))) (.alt 12 (.alt 6 (.op 7 (.op 8 (.op 9 (.op 10 (.op 11 (.alt 13 (.alt 15 (.alt 16 (.alt 17 (.op 18 (.done)) (.done)) (.done)) (.done)) (.done))))))) (.alt 13 (.alt 6 (.op 7 (.op 8 (.op 9 (.op 10 (.op 11 (.alt 15 (.alt 16 (.alt 17 (.op 18 (.done)) (.done)) (.done)) (.done))))))) (.done)) (.done))) (.alt 13 (.alt 6 (.op 7 (.op 8 (.op 9 (.op 10 (.op 11 (.alt 12 (.alt 15 (.alt 16 (.alt 17 (.op 18 (.done)) (.done)) (.done)) (.done)) (.done))))))) (.alt 12 (.alt 6 (.op 7 (.op 8 (.op 9 (.op 10 (.op 11 (.alt 15 (.alt 16 (.alt 17 (.op 18 (.done)) (.done)) (.done)) (.done))))))) (.done)) (.done))) (.done)))) (.done)))))))))))]} Tryz.func37 (hvc:=?_))⟩
 all_goals
  intro a
  repeat rcases a with ⟨_,a⟩
  rintro K ⟨r,h,hK⟩
  repeat'
    conv=>whnf
    first
    | with_reducible refine ZvK ?_
    | with_reducible refine ZeS (by assumption) (by assumption) (by assumption) ?_
    | with_reducible refine QO (by assumption) ?_
    | with_reducible refine ZeX (by assumption) ?_
    | (with_reducible refine shD ?_);first | refine ZsV h (fun h=>?_) (fun h=>?_) | refine Zvc h (fun h=>?_) (fun h=>?_)
    | (with_reducible refine Zvw ?_);first | refine Zzx ?_ | refine Zs3 ?_
    | (with_reducible refine ZAC ?_);first | refine ZuI h (fun h=>?_) (fun h=>?_) | refine Zvv h (fun h=>?_) (fun h=>?_)
    | (with_reducible refine Zva ?_);(refine ⟨fun hd=>?_,?_⟩)<;>try subst hd
    | (with_reducible refine ZAt ?_);first | with_reducible refine Zc5 h (fun x hb h=>?_) | refine ZeX (by assumption) ?_ | with_reducible refine pG h (fun hp h=>?_) | with_reducible refine pA h (fun x ha hb hx h=>?_) | with_reducible refine pB h (fun x hb h=>?_) | refine Zc5 h (fun x hb h=>?_)
    | (with_reducible refine ZAA ?_);first | with_reducible refine vAt h (fun x ha hb hx h=>?_) | refine ZeS (by assumption) (by assumption) (by assumption) ?_ | with_reducible refine pG h (fun hp h=>?_) | with_reducible refine pA h (fun x ha hb hx h=>?_) | with_reducible refine pB h (fun x hb h=>?_) | refine vAt h (fun x ha hb hx h=>?_)
    | (with_reducible refine ZvL ?_);first | with_reducible refine Zok h (fun x hb h=>?_) | refine QO (by assumption) ?_ | with_reducible refine pG h (fun hp h=>?_) | with_reducible refine pA h (fun x ha hb hx h=>?_) | with_reducible refine pB h (fun x hb h=>?_) | refine Zok h (fun x hb h=>?_)
    | with_reducible refine ZAF ?_
    | (with_reducible refine ZqE ?_);refine ZqA h hK ?_;clear h hK;intro I μ v r h hK;(repeat rcases v with ⟨_,v⟩);(try dsimp only at h)
    | with_reducible refine ⟨by assumption,?_⟩
    | with_reducible refine orL ?_
    | with_reducible refine .inr ?_
    | (with_reducible refine ZvB ?_);first | refine ⟨?_,True.intro⟩ | refine ⟨?_,?_⟩
    | refine ⟨by kernel_rfl,?_⟩
    | refine ⟨by decide,?_⟩
    | with_reducible refine ZpS h (fun hp h=>?_)
    | intro fp
    | exact trivial
    | with_reducible exact Zvu h
    | (refine pS h (fun e=>?_));subst e;(repeat (first | exact hK | exact ⟨⟨rfl,rfl⟩,hK.1 _ rfl⟩ | (refine pR hK (fun e hK=>?_));subst e));done
    | refine ZpS h (fun hp h=>?_)
    | refine ⟨by assumption,?_⟩
    | with_reducible refine pG h (fun hp h=>?_) | with_reducible refine pA h (fun x ha hb hx h=>?_) | with_reducible refine pB h (fun x hb h=>?_)
    | refine pG h (fun hp h=>?_)
    | fail
theorem w_laws_FnExactRedoSession (q4:Sq 8 c29) (q5:Sq 10 c61) (q0:Sq 27 ZPQ) (q1:Sq 28 ZPR) (q6:Sq 12 ZPw) (q2:Sq 23 ZQh) (q3:Sq 24 ZQq):Sq 6 ZJ3:=by
 refine Zf Zq (Zd q4 (Zd q5 (Zd q0 (Zd q1 (Zd q6 (Zd q2 (Zd q3 Zk))))))) mixed {draws:=[(10,[0,0,2,7,15],.op 0 (.op 1 (.alt 2 (.alt 3 (.op 4 (.done)) (.done)) (.done))))]} (fn:=Tryz.f6) Tryz.func6 (by kernel_rfl) (by kernel_rfl) ?_
 rintro ⟨a0,⟨⟩⟩ K ⟨r,h,hK⟩
 change ZIW a0=some r at h
 unfold ZIW at h
 conv=>whnf
 refine Zc5 h (fun szSession0 hb0 h=>?_)
 conv=>whnf
 refine ZsV h (fun h=>?_) (fun h=>?_)
 conv=>whnf
 cases h
 exact hK
 conv=>whnf
 refine Zc5 h (fun toSession0 hb1 h=>?_)
 conv=>whnf
 intro fp2
 conv=>whnf
 intro fp3
 conv=>whnf
 intro fp4
 conv=>whnf
 intro fp5
 conv=>whnf
 intro fp6
 conv=>whnf
 intro fp7
 conv=>whnf
 refine Zc5 h (fun RedoSession0 hb8 h=>?_)
 conv=>whnf
 refine ⟨_,hb1,?_⟩
 conv=>whnf
 intro fp9
 conv=>whnf
 intro fp10
 conv=>whnf
 intro fp11
 conv=>whnf
 intro fp12
 conv=>whnf
 intro fp13
 conv=>whnf
 intro fp14
 conv=>whnf
 refine Zc5 h (fun RedoSession1 hb15 h=>?_)
 conv=>whnf
 intro fp16
 conv=>whnf
 intro fp17
 conv=>whnf
 intro fp18
 conv=>whnf
 intro fp19
 conv=>whnf
 intro fp20
 conv=>whnf
 intro fp21
 conv=>whnf
 refine Zc5 h (fun eqSession0 hb22 h=>?_)
 conv=>whnf
 refine Zzx ?_
 refine ZuI h (fun h=>?_) (fun h=>?_)
 conv=>whnf
 refine Zs3 ?_
 refine ZsV h (fun h=>?_) (fun h=>?_)
 conv=>whnf
 refine ⟨by kernel_rfl,?_⟩
 conv=>whnf
 refine ⟨_,hb1,?_⟩
 conv=>whnf
 intro fp23
 conv=>whnf
 intro fp24
 conv=>whnf
 intro fp25
 conv=>whnf
 intro fp26
 conv=>whnf
 intro fp27
 conv=>whnf
 intro fp28
 conv=>whnf
 refine Zc5 h (fun eqSession1 hb29 h=>?_)
 conv=>whnf
 refine ⟨trivial,?_⟩
 conv=>whnf
 refine Zs3 ?_
 refine ZuI h (fun h=>?_) (fun h=>?_)
 conv=>whnf
 refine Zc5 h (fun markSession0 hb30 h=>?_)
 conv=>whnf
 intro fp31
 conv=>whnf
 intro fp32
 conv=>whnf
 intro fp33
 conv=>whnf
 intro fp34
 conv=>whnf
 intro fp35
 conv=>whnf
 intro fp36
 conv=>whnf
 refine Zvc h (fun h=>?_) (fun h=>?_)
 conv=>whnf
 cases h
 exact hK
 conv=>whnf
 refine ⟨_,hb22,?_⟩
 conv=>whnf
 refine Zzx ?_
 refine ZuI h (fun h=>?_) (fun h=>?_)
 conv=>whnf
 refine Zs3 ?_
 refine ZsV h (fun h=>?_) (fun h=>?_)
 conv=>whnf
 refine Zc5 h (fun markSession1 hb37 h=>?_)
 conv=>whnf
 intro fp38
 conv=>whnf
 intro fp39
 conv=>whnf
 intro fp40
 conv=>whnf
 intro fp41
 conv=>whnf
 intro fp42
 conv=>whnf
 intro fp43
 conv=>whnf
 refine Zc5 h (fun heldSession0 hb44 h=>?_)
 conv=>whnf
 refine ZsV h (fun h=>?_) (fun h=>?_)
 conv=>whnf
 cases h
 exact hK
 conv=>whnf
 refine Zs3 ?_
 refine ZsV h (fun h=>?_) (fun h=>?_)
 conv=>whnf
 refine ⟨_,hb1,?_⟩
 conv=>whnf
 intro fp45
 conv=>whnf
 intro fp46
 conv=>whnf
 intro fp47
 conv=>whnf
 intro fp48
 conv=>whnf
 intro fp49
 conv=>whnf
 intro fp50
 conv=>whnf
 refine ⟨_,hb15,?_⟩
 conv=>whnf
 intro fp51
 conv=>whnf
 intro fp52
 conv=>whnf
 intro fp53
 conv=>whnf
 intro fp54
 conv=>whnf
 intro fp55
 conv=>whnf
 intro fp56
 conv=>whnf
 refine ⟨_,hb22,?_⟩
 conv=>whnf
 refine Zzx ?_
 refine ZuI h (fun h=>?_) (fun h=>?_)
 conv=>whnf
 refine Zs3 ?_
 refine ZsV h (fun h=>?_) (fun h=>?_)
 conv=>whnf
 refine ⟨_,hb44,?_⟩
 conv=>whnf
 refine ZsV h (fun h=>?_) (fun h=>?_)
 conv=>whnf
 cases h
 exact hK
 conv=>whnf
 refine Zs3 ?_
 refine ZsV h (fun h=>?_) (fun h=>?_)
 conv=>whnf
 cases h
 exact hK
 conv=>whnf
 cases h
 exact hK
 conv=>whnf
 cases h
 exact hK
 conv=>whnf
 cases h
 exact hK
 conv=>whnf
 cases h
 exact hK
 conv=>whnf
 cases h
 exact hK
 conv=>whnf
 cases h
 exact hK
 conv=>whnf
 cases h
 exact hK
 conv=>whnf
 cases h
 exact hK
 conv=>whnf
 cases h
 exact hK
theorem ZrZ (rec0:(List Zl)→Int→Option Xu) (hrec:Sq 173 (Ze9 rec0)):Sq 173 (Ze9 (Zbp rec0)):=by
 refine Zf Zq (Zd hrec Zk) mixed {} (fn:=Tryz.f173) Tryz.func173 (by kernel_rfl) (by kernel_rfl) ?_
 rintro ⟨list0,k0,⟨⟩⟩ K ⟨r,h,hK⟩
 change Zbp rec0 list0 k0=some r at h
 unfold Zbp at h
 conv=>whnf
 refine vAt h (fun x0 he0a he0b he0x h=>?_)
 conv=>whnf
 refine ZsV h (fun h=>?_) (fun h=>?_)
 conv=>whnf
 cases h
 exact hK
 conv=>whnf
 refine Zc5 h (fun r0 hb1 h=>?_)
 conv=>whnf
 refine ZsV h (fun h=>?_) (fun h=>?_)
 conv=>whnf
 refine ⟨by decide,?_⟩
 conv=>whnf
 refine ZuI h (fun h=>?_) (fun h=>?_)
 conv=>whnf
 cases h
 exact hK
 conv=>whnf
 cases h
 exact hK
 conv=>whnf
 refine ZuI h (fun h=>?_) (fun h=>?_)
 conv=>whnf
 cases h
 exact hK
 conv=>whnf
 cases h
 exact hK
theorem w82:Sq 173 c82:=by
 have hn:∀ n,Sq 173 (Ze9 (Zbt n)):=by
  intro n
  induction n with
  | zero =>
  refine Zf Zq Zk mixed {} (fn:=Tryz.f173) Tryz.func173 (by kernel_rfl) (by kernel_rfl) ?_
  rintro ⟨list0,k0,⟨⟩⟩ K ⟨r,h,hK⟩
  cases h
  | succ n ih=>exact ZrZ _ ih
 refine ⟨(hn 0).1,?_⟩
 rintro w S vs ⟨list0,k0,⟨⟩⟩ fp K h1 h2 h3 h4 ⟨r,h,hK⟩
 obtain ⟨n,hr⟩:=ZsX h
 exact (hn n).2 w S vs _ fp K h1 h2 h3 h4 ⟨r,hr,hK⟩
end Go.Proofs.YthkhedimjmkifaaGreatDoor
