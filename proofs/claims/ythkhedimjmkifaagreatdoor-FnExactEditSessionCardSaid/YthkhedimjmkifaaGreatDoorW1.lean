/-
  The functions keep their contracts, if what they call does. Printed by program.
-/
import Derived.Test.YthkhedimjmkifaaGreatDoorM
import Derived.KernelRfl
namespace Go.Proofs.YthkhedimjmkifaaGreatDoor
open Go Go.Sx
set_option maxRecDepth 100000
set_option maxHeartbeats 3200000
set_option linter.unusedVariables false
set_option linter.unusedSimpArgs false
structure Ws1:Prop where
 w256:Sq 162 ZCQ→Sq 159 ZEf→Sq 229 ZEZ→Sq 230 ZEg→Sq 163 ZDT→Sq 164 ZCA→Sq 160 ZCT
 w232:Sq 229 ZEZ→Sq 266 c227→Sq 270 c232
 w253:Sq 159 ZEf→Sq 162 ZCQ
 w254:Sq 163 ZDT
 w257:Sq 162 ZCQ→Sq 159 ZEf→Sq 229 ZEZ→Sq 231 ZC4→Sq 163 ZDT→Sq 164 ZCA→Sq 161 ZEB
 w160:Sq 343 c156→Sq 344 c159→Sq 324 c160
 w157:Sq 345 c157
 w164:Sq 344 ZEH→Sq 347 c164
 w161:Sq 362 ZCU
 w156:Sq 357 ZE4→Sq 358 ZCE→Sq 359 ZFi→Sq 360 ZE6→Sq 346 c154→Sq 245 c130→Sq 343 c156
 w155:Sq 346 c154→Sq 245 c130→Sq 360 ZE6
 w165:Sq 346 c154→Sq 247 ZEP→Sq 347 c164→Sq 325 ZCV
 w154:Sq 342 ZzY→Sq 346 c154
 w188:Sq 249 ZDG
 w168:Sq 252 ZzS→Sq 240 c168
 w175:Sq 264 ZEJ→Sq 245 c130→Sq 289 ZDp→Sq 241 c175
 w171:Sq 229 ZEZ→Sq 245 c130→Sq 242 c171
 w266:Sq 159 ZEf→Sq 232 ZDt→Sq 165 ZFa
 w264:Sq 233 ZEU
 w234:Sq 193 ZD3→Sq 194 c233→Sq 100 c234
 w267:Sq 159 ZEf→Sq 59 ZBb→Sq 161 ZEB→Sq 165 ZFa→Sq 162 ZCQ→Sq 124 ZBF→Sq 88 ZDQ
 w233:Sq 159 ZEf→Sq 265 c226→Sq 266 c227→Sq 267 c131→Sq 268 ZDo→Sq 269 ZEq→Sq 270 c232→Sq 180 c138→Sq 178 c182→Sq 194 c233
 w166:Sq 267 c131→Sq 323 ZEN→Sq 324 c160→Sq 245 c130→Sq 325 ZCV→Sq 288 ZCb
 w216:Sq 260 ZCR→Sq 261 ZCc→Sq 245 c130→Sq 252 ZzS→Sq 192 ZCG
 w145:Sq 378 ZDE→Sq 247 ZEP→Sq 369 c145
 w182:Sq 180 c138→Sq 245 c130→Sq 246 ZCL→Sq 247 ZEP→Sq 178 c182
 w150:Sq 367 ZEb→Sq 358 ZCE
 w147:Sq 369 c145→Sq 370 c146→Sq 368 ZDx
 w260:Sq 100 c234→Sq 101 ZEa→Sq 86 ZET→Sq 40 ZE9
 w241:Sq 272 ZEr
 w268:Sq 124 ZBF→Sq 155 ZDy
 w245:Sq 128 ZBT→Sq 208 ZDZ
 w269:Sq 155 ZDy→Sq 87 ZEt
 w144:Sq 180 c138→Sq 245 c130→Sq 247 ZEP→Sq 259 c143→Sq 378 ZDE
 w227:Sq 266 c227
 w193:Sq 183 c193
 w138:Sq 180 c138
 w170:Sq 229 ZEZ
 w192:Sq 159 ZEf→Sq 179 ZDD→Sq 180 c138→Sq 181 ZEx→Sq 182 ZDu→Sq 98 ZEp
 w199:Sq 254 c198→Sq 245 c130→Sq 187 ZDF
 w217:Sq 183 c193→Sq 184 ZFh→Sq 185 ZE2→Sq 188 ZE8→Sq 189 c212→Sq 192 ZCG→Sq 99 ZEF
 w130:Sq 245 c130
 w298:Sq 136 ZPZ→Sq 67 ZP0
 w286:Sq 130 ZDB→Sq 131 ZDd→Sq 132 ZDH→Sq 62 ZDY
 w271:Sq 312 ZE0
 w272:Sq 312 ZE0→Sq 278 ZD0
 w285:Sq 214 ZDk→Sq 132 ZDH
 w302:Sq 19 ZEh→Sq 20 ZPH→Sq 41 ZP2→Sq 12 ZPw
 w283:Sq 131 ZDd
 w337:Sq 142 ZP3→Sq 146 ZPG
 w334:Sq 219 ZPE→Sq 220 ZQm→Sq 221 ZPN→Sq 144 ZPy
 w339:Sq 150 ZQj→Sq 148 ZQo
 w338:Sq 147 ZPO
 w330:Sq 218 ZPx→Sq 143 ZPD
 w333:Sq 142 ZP3→Sq 221 ZPN
 w343:Sq 76 ZQn→Sq 77 ZQq→Sq 78 ZPP→Sq 24 ZPQ
 w315:Sq 68 ZP5→Sq 69 ZP9→Sq 70 ZQa→Sq 21 ZQb
 w308:Sq 142 ZP3→Sq 216 ZPB→Sq 217 ZPC→Sq 141 ZPI→Sq 137 ZP4
 w319:Sq 142 ZP3→Sq 74 ZQe
 w324:Sq 90 ZQi→Sq 34 ZPL
 w309:Sq 137 ZP4→Sq 68 ZP5
 w312:Sq 142 ZP3→Sq 140 ZP8
 w311:Sq 142 ZP3→Sq 139 ZP7
 w303:Sq 142 ZP3
 w7:Sq 273 c1→Sq 274 c6→Sq 156 c2→Sq 197 c7
 w15:Sq 103 c11→Sq 104 c12→Sq 105 c14→Sq 43 c15
 w23:Sq 107 c22→Sq 47 c23
 w10:Sq 156 c2→Sq 198 c10
 w1:Sq 307 c0→Sq 273 c1
 w14:Sq 199 c13→Sq 105 c14
 w29:Sq 13 c18→Sq 14 c26→Sq 35 c28→Sq 8 c29
 w12:Sq 104 c12
 w4:Sq 353 c3→Sq 336 c4
 w17:Sq 83 c16→Sq 44 c17
 w37:Sq 276 c31→Sq 277 c36→Sq 157 c32→Sq 202 c37
 w54:Sq 157 c32→Sq 120 c54
 w55:Sq 120 c54→Sq 57 c55
 w52:Sq 205 c51→Sq 119 c52
 w53:Sq 119 c52→Sq 56 c53
 w31:Sq 310 c30→Sq 276 c31
 w43:Sq 204 c43
 w61:Sq 16 c48→Sq 17 c58→Sq 38 c60→Sq 10 c61
 w235:Sq 125 ZCD
 w149:Sq 377 c148→Sq 367 ZEb
 w174:Sq 326 c173→Sq 289 ZDp
 w134:Sq 306 ZDv→Sq 295 ZCS
 w220:Sq 327 ZDf
 w211:Sq 190 c210→Sq 257 ZER
 w152:Sq 372 ZAY→Sq 371 c152
 w148:Sq 368 ZDx→Sq 377 c148
 w140:Sq 292 c139→Sq 326 ZCx
 w133:Sq 306 ZDv
 w102:Sq 91 c79→Sq 283 c92→Sq 284 c93→Sq 285 ZC2→Sq 222 ZFf
 w84:Sq 172 c63→Sq 237 c62→Sq 174 c84
 w72:Sq 287 c71→Sq 234 c72
 w91:Sq 91 c79→Sq 92 c83→Sq 93 c85→Sq 94 c76→Sq 95 c88→Sq 96 c90→Sq 36 c91
 w78:Sq 172 c63→Sq 168 c78
 w122:Sq 222 ZFf→Sq 36 c91→Sq 223 ZE1→Sq 49 ZC6→Sq 152 ZCu→Sq 151 ZDb
 w67:Sq 366 c66→Sq 356 c67
 w63:Sq 172 c63
 w107:Sq 201 c107
 w108:Sq 201 c107→Sq 309 ZCC
 w69:Sq 172 c63→Sq 341 c68→Sq 321 c69
 w94:Sq 315 c94
 w95:Sq 316 c95
 w115:Sq 94 c76→Sq 169 c77→Sq 226 ZAy
 w93:Sq 94 c76→Sq 172 c63→Sq 284 c93
 w89:Sq 176 c89
 w81:Sq 172 c63→Sq 171 c81
 w85:Sq 174 c84→Sq 93 c85
 w106:Sq 109 ZDX→Sq 110 c105→Sq 49 ZC6
 w105:Sq 110 c105
 w127:Sq 113 ZA2→Sq 154 c127
set_option maxHeartbeats 100000000 in
theorem ws1:Ws1:=by
 refine ⟨(fun q1 q2 q3 q0 q5 q4=>Zf Xa (Zd q1 (Zd q2 (Zd q3 (Zd q0 (Zd q5 (Zd q4 Zk)))))) mixed {draws:=[(2,[0,1,3,7,15,0,32,127,255,0,1023],.op 0 (.op 1 (.op 2 (.op 3 (.op 5 (.op 6 (.alt 4 (.op 7 (.op 8 (.alt 9 (.alt 10 (.done) (.done)) (.done)))) (.alt 9 (.alt 4 (.op 7 (.op 8 (.alt 10 (.done) (.done)))) (.done)) (.done))))))))),(4,[0,1,3,7,15,31,0,64,192,448,960,2047,4095,8191],.op 0 (.op 1 (.op 2 (.op 3 (.op 4 (.op 6 (.op 7 (.op 8 (.op 9 (.op 10 (.alt 5 (.alt 11 (.op 12 (.op 13 (.done))) (.done)) (.done)))))))))))),(5,[0,0,2,6,14,30,0,64,0,256,0,1024,0,7168,16320,32704,65534,131071,262143,524287,1048575],.op 0 (.op 1 (.op 2 (.op 3 (.op 4 (.op 5 (.op 6 (.op 7 (.op 8 (.op 9 (.op 10 (.op 11 (.op 12 (.alt 13 (.op 14 (.alt 15 (.alt 16 (.op 17 (.op 18 (.op 19 (.alt 20 (.done) (.done))))) (.done)) (.done))) (.done))))))))))))))),(6,[0,0,2,6,14,30,0,64,192,510,1023,2047,4095,8191],.op 0 (.op 1 (.op 2 (.op 3 (.op 4 (.op 5 (.op 6 (.op 7 (.alt 8 (.alt 9 (.op 10 (.op 11 (.op 12 (.alt 13 (.done) (.done))))) (.done)) (.done))))))))))]} Tryz.func160 (hvc:=?_)),
 (fun q0 q1=>Zf Zq (Zd q0 (Zd q1 Zk)) mixed {draws:=[(6,[0,1,3,0,8,31,63,127,255,511,1023,2047,4095,8191,1023,32767,65535,131071,262143,524287,1048575,2097151,262143,8388607,16777215,33554431,67108863,134217727,67108863,536870911,1073741823,67108863,2214592511,8589934591,17179869183],.op 0 (.op 1 (.op 2 (.op 3 (.op 4 (.op 5 (.op 6 (.alt 7 (.op 8 (.op 9 (.op 10 (.op 11 (.op 12 (.op 13 (.op 14 (.op 15 (.op 16 (.op 17 (.op 18 (.op 19 (.op 20 (.op 21 (.op 22 (.op 23 (.op 24 (.op 25 (.op 26 (.op 27 (.op 28 (.op 29 (.op 30 (.op 31 (.op 32 (.op 33 (.op 34 (.done)))))))))))))))))))))))))))) (.done)))))))))]} Tryz.func270 (hvc:=?_)),
 (fun q0=>Zf Zq (Zd q0 Zk) mixed {loops:=[(0,[.reg 16 (.dat Iq),.entm 1 (ZsE.ty) (ZsE.ety),.ent 2 (nat_lit 3) (.flat ZtB.ety)])],draws:=[(7,[0,0,2,0,8,30,0,64,0,256,960,1984,4032,0,0,16384,57344,122880,262080,524224,1048575],.op 0 (.op 1 (.op 2 (.op 3 (.op 4 (.op 5 (.op 6 (.op 7 (.op 8 (.op 9 (.op 10 (.op 11 (.op 12 (.op 13 (.op 14 (.op 15 (.op 16 (.op 17 (.op 18 (.op 19 (.alt 20 (.done) (.done))))))))))))))))))))))]} Tryz.func162 (hvc:=?_)),
 (Zf Xa Zk mixed {draws:=[(2,[0,1,3,7,15,0,32,0,255,511,1023],.op 0 (.op 1 (.op 2 (.op 3 (.op 4 (.op 5 (.op 6 (.op 7 (.op 8 (.op 9 (.alt 10 (.done) (.done)))))))))))),(3,[0,1,3,7,15,0,32,127,255,511,0,1024,0,8191,16383],.op 0 (.op 1 (.op 2 (.op 3 (.op 4 (.op 5 (.op 6 (.op 7 (.op 8 (.op 9 (.op 10 (.op 11 (.op 12 (.op 13 (.alt 14 (.done) (.done))))))))))))))))]} Tryz.func163 (hvc:=?_)),
 (fun q0 q1 q2 q4 q5 q3=>Zf Zxn (Zd q0 (Zd q1 (Zd q2 (Zd q4 (Zd q5 (Zd q3 Zk)))))) mixed {draws:=[(4,[0,0,2,6,14,0,32,96,224,480,992,2016,4094,8190,16382,32767,65535,0,262143],.op 0 (.op 1 (.op 2 (.op 3 (.op 4 (.op 5 (.op 6 (.op 7 (.op 8 (.op 9 (.alt 10 (.op 11 (.alt 12 (.op 13 (.op 14 (.op 15 (.op 16 (.alt 17 (.alt 18 (.done) (.done)) (.done)))))) (.alt 17 (.alt 12 (.op 13 (.op 14 (.op 15 (.op 16 (.alt 18 (.done) (.done)))))) (.done)) (.done)))) (.alt 17 (.alt 10 (.op 11 (.alt 12 (.op 13 (.op 14 (.op 15 (.op 16 (.alt 18 (.done) (.done)))))) (.done))) (.done)) (.done))))))))))))),(6,[0,0,0,0,8,28,63],.op 0 (.op 2 (.op 3 (.op 4 (.alt 1 (.alt 5 (.alt 6 (.done) (.done)) (.done)) (.alt 5 (.alt 1 (.alt 6 (.done) (.done)) (.done)) (.done))))))),(7,[0,0,0,4,12,28,60,0,252,508,1020,2044,4092,8191],.op 0 (.op 1 (.op 2 (.op 3 (.op 4 (.op 5 (.op 6 (.op 7 (.op 8 (.op 9 (.op 10 (.op 11 (.op 12 (.alt 13 (.done) (.done))))))))))))))),(9,[0,0,2,6,14,30,0,64,192,448,960,1984,4032,8190,16383,32767,65535,131071],.op 0 (.op 1 (.op 2 (.op 3 (.op 4 (.op 5 (.op 6 (.op 7 (.op 8 (.op 9 (.op 10 (.op 11 (.op 12 (.alt 13 (.op 14 (.op 15 (.op 16 (.alt 17 (.done) (.done))))) (.done))))))))))))))),(10,[0,0,2,6,14,0,32,96,224,480,992,2046,4095,8191,16383],.op 0 (.op 1 (.op 2 (.op 3 (.op 4 (.op 5 (.op 6 (.op 7 (.op 8 (.op 9 (.op 10 (.alt 11 (.op 12 (.op 13 (.alt 14 (.done) (.done)))) (.done)))))))))))))]} Tryz.func161 (hvc:=?_)),
 (fun q1 q0=>Zf Zq (Zd q1 (Zd q0 Zk)) mixed {loops:=[(0,[.reg 8 (.dat Iq)])]} Tryz.func324 (hvc:=?_)),
 (Zf Zq Zk mixed {} Tryz.func345 (hvc:=?_)),
 (fun q0=>Zf Zq (Zd q0 Zk) mixed {} Tryz.func347 (hvc:=?_)),
 (Zf Zq Zk mixed {} Tryz.func362 (hvc:=?_)),
 (fun q4 q3 q2 q0 q1 q5=>Zf Zq (Zd q4 (Zd q3 (Zd q2 (Zd q0 (Zd q1 (Zd q5 Zk)))))) mixed {draws:=[(2,[0,1,3,7,15,31,63,127,255,511,1023,2047,4095,8191,16383,32767,65535,32767,163839,524287,1048575,2097151,4194303,8388607,16777215,33554431,67108863,134217727,134217727,402653183,1073741823,2147483647,4294967295,8589934591,17179869183,8589934591,42949672959,137438953471,274877906943,549755813887],.op 0 (.op 1 (.op 2 (.op 3 (.op 4 (.op 5 (.op 6 (.op 7 (.op 8 (.op 9 (.op 10 (.op 11 (.alt 12 (.op 13 (.op 14 (.op 15 (.op 16 (.op 17 (.alt 18 (.op 19 (.op 20 (.op 21 (.op 22 (.op 23 (.op 24 (.op 25 (.op 26 (.op 27 (.op 28 (.op 29 (.alt 30 (.op 31 (.op 32 (.op 33 (.op 34 (.op 35 (.op 36 (.op 37 (.op 38 (.op 39 (.done)))))))))) (.done))))))))))))) (.done))))))) (.done)))))))))))))),(3,[0,1,3,7,15,31,63,127,255,511,1023,2047,4095,2047,10239,32767,65535,131071,262143,262143,786431,2097151,4194303,8388607],.op 0 (.op 1 (.alt 2 (.op 3 (.op 4 (.op 5 (.op 6 (.alt 7 (.op 8 (.op 9 (.op 10 (.op 11 (.op 12 (.op 13 (.alt 14 (.op 15 (.op 16 (.op 17 (.op 18 (.op 19 (.op 20 (.alt 21 (.op 22 (.op 23 (.done))) (.done)))))))) (.done)))))))) (.done)))))) (.done))))]} Tryz.func343 (hvc:=?_)),
 (fun q0 q1=>Zf Zq (Zd q0 (Zd q1 Zk)) mixed {} Tryz.func360 (hvc:=?_)),
 (fun q0 q1 q2=>Zf Zq (Zd q0 (Zd q1 (Zd q2 Zk))) mixed {loops:=[(0,[.reg 3 (.dat Iq),.reg 9 (.dat Iq)])],draws:=[(10,[0,1,3,7,15,31,7,71,199,511,1023,2047,4095,8191,16383,32767,65535],.op 0 (.op 1 (.op 2 (.op 3 (.op 4 (.op 5 (.op 6 (.alt 7 (.op 8 (.op 9 (.op 10 (.op 11 (.op 12 (.op 13 (.alt 14 (.op 15 (.op 16 (.done))) (.done)))))))) (.done))))))))),(12,[0,1,3,7,15,31,63,127,255,511,1023,2047,4095,8191,16383,32767,16383,131071,262143,524287,1048575],.op 0 (.op 1 (.op 2 (.op 3 (.op 4 (.op 5 (.op 6 (.op 7 (.op 8 (.op 9 (.alt 10 (.op 11 (.op 12 (.op 13 (.op 14 (.op 16 (.alt 15 (.alt 17 (.op 18 (.op 19 (.op 20 (.done)))) (.done)) (.done))))))) (.done))))))))))))]} Tryz.func325 (hvc:=?_)),
 (fun q0=>Zf Zq (Zd q0 Zk) mixed {} Tryz.func346 (hvc:=?_)),
 (Zf Zq Zk mixed {draws:=[(3,[0,1,0,4,0,16,60,124,252,511,1023,2047,0,4096,16383,32767,65535,131071],.op 0 (.op 1 (.op 2 (.op 3 (.op 4 (.op 5 (.op 6 (.op 7 (.op 8 (.op 9 (.op 10 (.op 11 (.op 12 (.op 13 (.op 14 (.op 15 (.op 16 (.op 17 (.done)))))))))))))))))))]} Tryz.func249 (hvc:=?_)),
 (fun q0=>Zf Zq (Zd q0 Zk) mixed {loops:=[(0,[.reg 3 (.own (.ol 9 (.flat (.str)))),.reg 12 (.dat Iq)]),(2,[.reg 4 (.own (.ol 9 (.flat (.str)))),.reg 25 (.dat Iq)])]} Tryz.func240 (hvc:=?_)),
 (fun q1 q2 q0=>Zf Zq (Zd q1 (Zd q2 (Zd q0 Zk))) mixed {draws:=[(1,[0,1,0,4,12,28,63,127,255,511,1023,255,2303,255,8447,30975,63743,129279,260351,524287,1048575,2097151,4194303,8388607,4194303,33554431,67108863,134217727,268435455],.op 0 (.op 1 (.op 2 (.op 3 (.alt 4 (.op 5 (.alt 6 (.op 7 (.op 8 (.op 9 (.op 10 (.op 11 (.op 12 (.op 13 (.op 14 (.op 15 (.op 16 (.op 17 (.op 18 (.op 19 (.op 20 (.op 21 (.op 22 (.op 23 (.op 24 (.alt 25 (.op 26 (.op 27 (.op 28 (.done)))) (.done)))))))))))))))))))) (.done))) (.done))))))]} Tryz.func241 (hvc:=?_)),
 (fun q0 q1=>Zf Zq (Zd q0 (Zd q1 Zk)) mixed {} Tryz.func242 (hvc:=?_)),
 (fun q1 q0=>Zf Zq (Zd q1 (Zd q0 Zk)) mixed {} Tryz.func165 (hvc:=?_)),
 (Zf Zq Zk mixed {} Tryz.func233 (hvc:=?_)),
 (fun q1 q0=>Zf Zq (Zd q1 (Zd q0 Zk)) mixed {} Tryz.func100 (hvc:=?_)),
 (fun q2 q4 q0 q1 q3 q5=>Zf Zq (Zd q2 (Zd q4 (Zd q0 (Zd q1 (Zd q3 (Zd q5 Zk)))))) mixed {draws:=[(4,[0,1,0,4,0,16,0,64,240,496,1008,2044,4092,8188,16383,32767],.op 0 (.op 1 (.op 2 (.op 3 (.op 4 (.op 6 (.op 7 (.alt 5 (.op 8 (.op 9 (.op 10 (.op 11 (.op 12 (.op 13 (.op 14 (.alt 15 (.done) (.done))))))))) (.done))))))))),(11,[0,1,0,4,0,16,63,0,128,0,512,2047,4095],.op 0 (.op 1 (.op 2 (.op 3 (.op 4 (.op 5 (.op 7 (.op 8 (.op 9 (.op 10 (.alt 6 (.op 11 (.alt 12 (.done) (.done))) (.done)))))))))))),(13,[0,1,0,4,15,31,0,127],.op 0 (.op 2 (.op 3 (.alt 1 (.op 4 (.op 5 (.alt 6 (.alt 7 (.done) (.done)) (.done)))) (.alt 6 (.alt 1 (.op 4 (.op 5 (.alt 7 (.done) (.done)))) (.done)) (.done)))))),(14,[0,1,0,4,0,16,0,64,0,256,960,2032,4095,8191],.op 0 (.op 2 (.op 4 (.op 6 (.op 7 (.op 8 (.op 9 (.op 10 (.alt 1 (.alt 3 (.alt 5 (.alt 11 (.op 12 (.alt 13 (.done) (.done))) (.done)) (.done)) (.alt 5 (.alt 3 (.alt 11 (.op 12 (.alt 13 (.done) (.done))) (.done)) (.alt 11 (.alt 3 (.op 12 (.alt 13 (.done) (.done))) (.done)) (.done))) (.done))) (.alt 3 (.alt 1 (.alt 5 (.alt 11 (.op 12 (.alt 13 (.done) (.done))) (.done)) (.done)) (.alt 5 (.alt 1 (.alt 11 (.op 12 (.alt 13 (.done) (.done))) (.done)) (.alt 11 (.alt 1 (.op 12 (.alt 13 (.done) (.done))) (.done)) (.done))) (.done))) (.alt 5 (.alt 1 (.alt 3 (.alt 11 (.op 12 (.alt 13 (.done) (.done))) (.done)) (.alt 11 (.alt 3 (.op 12 (.alt 13 (.done) (.done))) (.done)) (.done))) (.alt 3 (.alt 1 (.alt 11 (.op 12 (.alt 13 (.done) (.done))) (.done)) (.alt 11 (.alt 1 (.op 12 (.alt 13 (.done) (.done))) (.done)) (.done))) (.alt 11 (.alt 1 (.alt 3 (.op 12 (.alt 13 (.done) (.done))) (.done)) (.alt 3 (.alt 1 (.op 12 (.alt 13 (.done) (.done))) (.done)) (.done))) (.done)))) (.done)))))))))))),(15,[0,1,0,4,0,16,60,124,252,511,1023],.op 0 (.op 1 (.op 2 (.op 3 (.op 4 (.op 5 (.op 6 (.op 7 (.alt 8 (.op 9 (.alt 10 (.done) (.done))) (.done))))))))))]} Tryz.func88 (hvc:=?_)),
 (fun q2 q5 q6 q7 q3 q1 q0 q4 q8=>Zf Zq (Zd q2 (Zd q5 (Zd q6 (Zd q7 (Zd q3 (Zd q1 (Zd q0 (Zd q4 (Zd q8 Zk))))))))) mixed {draws:=[(6,[0,1,3,7,15,31,63,127,255,511,1023,255,2303,255,8447,30975,63743,129279,262143,524287,255,1048831,3145983,255,8388863,32506111,66060543,134217727,268435455,536870911],.op 0 (.op 1 (.op 2 (.op 3 (.op 4 (.op 5 (.op 6 (.op 7 (.op 8 (.op 9 (.op 10 (.op 11 (.op 12 (.op 13 (.op 14 (.op 15 (.op 16 (.op 17 (.op 18 (.op 19 (.op 20 (.op 21 (.op 22 (.op 23 (.op 24 (.op 25 (.op 26 (.alt 27 (.op 28 (.op 29 (.done))) (.done))))))))))))))))))))))))))))),(12,[0,0,2,7,15,31,63,127,255,255,767,2047,4095,8191,255,16639,65535,131071,262143],.op 0 (.op 1 (.op 2 (.op 3 (.op 4 (.op 5 (.op 6 (.op 7 (.op 8 (.op 9 (.op 10 (.op 11 (.op 12 (.op 13 (.op 14 (.op 15 (.op 16 (.op 17 (.op 18 (.done)))))))))))))))))))),(13,[0,1,0,4,0,16,60,124,252,508,1023,2047],.op 0 (.op 1 (.op 2 (.op 3 (.op 4 (.op 5 (.op 6 (.op 7 (.op 8 (.alt 9 (.alt 10 (.op 11 (.done)) (.done)) (.done)))))))))))]} Tryz.func194 (hvc:=?_)),
 (fun q3 q2 q1 q4 q0=>Zf Zq (Zd q3 (Zd q2 (Zd q1 (Zd q4 (Zd q0 Zk))))) mixed {} Tryz.func288 (hvc:=?_)),
 (fun q1 q0 q3 q2=>Zf Zq (Zd q1 (Zd q0 (Zd q3 (Zd q2 Zk)))) mixed {loops:=[(0,[.reg 3 (.own (.ol 9 (.flat (.str)))),.reg 8 (.dat Iq)])]} Tryz.func192 (hvc:=?_)),
 (fun q1 q0=>Zf Zq (Zd q1 (Zd q0 Zk)) mixed {} Tryz.func369 (hvc:=?_)),
 (fun q0 q3 q1 q2=>Zf Zq (Zd q0 (Zd q3 (Zd q1 (Zd q2 Zk)))) mixed {} Tryz.func178 (hvc:=?_)),
 (fun q0=>Zf Zq (Zd q0 Zk) mixed {} Tryz.func358 (hvc:=?_)),
 (fun q1 q0=>Zf Zq (Zd q1 (Zd q0 Zk)) mixed {} Tryz.func368 (hvc:=?_)),
 (fun q2 q0 q1=>Zf Zq (Zd q2 (Zd q0 (Zd q1 Zk))) mixed {loops:=[(0,[.reg 13 (.dat Iq),.cell 1003 0 (.sl (QL)),.cell 1003 1 (.sl (Yq)),.cell 1003 2 (.sl (.str)),.cell 1003 3 (.sl (Zcd)),.cell 1003 4 (.sl (Vv)),.cell 1004 0 (.sl (XF)),.cell 1004 1 (.sl (Yg)),.cell 1004 2 (.sl (Yg)),.cell 1004 3 (.sl (Yn)),.cell 1004 4 (.sl (Xf))])],draws:=[(9,[0,0,3,0,7,31],.op 0 (.op 1 (.alt 2 (.alt 3 (.alt 4 (.alt 5 (.done) (.done)) (.done)) (.alt 4 (.alt 3 (.alt 5 (.done) (.done)) (.done)) (.done))) (.alt 3 (.alt 2 (.alt 4 (.alt 5 (.done) (.done)) (.done)) (.done)) (.done)))))]} Tryz.func40 (hvc:=?_)),
 (Zf Xa Zk mixed {loops:=[(0,[.reg 9 (.dat Iq),.ent 0 (nat_lit 2) (.flat (Ty.int IntKind.i64))])]} Tryz.func272 (hvc:=?_)),
 (fun q0=>Zf Xa (Zd q0 Zk) mixed {loops:=[(0,[.reg 3 (.own (.ol 88 (Zo8))),.reg 8 (.dat Iq)])]} Tryz.func155 (hvc:=?_)),
 (fun q0=>Zf Xa (Zd q0 Zk) mixed {loops:=[(0,[.reg 3 (.own (.ol 341 (Zgw))),.reg 8 (.dat Iq)])],draws:=[(5,[0,0,2,6,0,16,62,0,128,510,1022,2046,4095,8191],.op 0 (.op 1 (.op 2 (.op 4 (.op 5 (.op 7 (.op 8 (.alt 3 (.alt 6 (.alt 9 (.op 10 (.alt 11 (.alt 12 (.op 13 (.done)) (.done)) (.done))) (.done)) (.done)) (.done)))))))))]} Tryz.func208 (hvc:=?_)),
 (fun q0=>Zf Zq (Zd q0 Zk) mixed {} Tryz.func87 (hvc:=?_)),
 (fun q0 q3 q2 q1=>Zf Zq (Zd q0 (Zd q3 (Zd q2 (Zd q1 Zk)))) mixed {} Tryz.func378 (hvc:=?_)),
 (Zf Zq Zk mixed {} Tryz.func266 (hvc:=?_)),
 (Zf Zq Zk mixed {} Tryz.func183 (hvc:=?_)),
 (Zf Zq Zk mixed {} Tryz.func180 (hvc:=?_)),
 (Zf Zq Zk mixed {} Tryz.func229 (hvc:=?_)),
 (fun q3 q1 q4 q2 q0=>Zf Xa (Zd q3 (Zd q1 (Zd q4 (Zd q2 (Zd q0 Zk))))) mixed {loops:=[(0,[.reg 4 (.dat Iq),.reg 25 (.dat Iq),.cello 1020 6 (.ol 257 (.flat (Zpw)))]),(2,[.reg 60 (.dat Iq),.ent 4 (nat_lit 2) (.flat Zvn.ety),.ent 5 (nat_lit 79) (Dp.ol (2:Go.TypeId) (Dp.flat (Ty.int IntKind.i64)))]),(4,[.reg 88 (.dat Iq),.cello 1020 7 (.ol 2 (.flat Iq)),.cello 1020 8 (.ol 79 (.ol 2 (.flat Iq))),.cello 1020 6 (.ol (nat_lit 257) (.flat Zpw)),.ent 5 (nat_lit 79) (Dp.ol (2:Go.TypeId) (Dp.flat (Ty.int IntKind.i64)))]),(6,[.reg 122 (.dat Iq),.cello 1020 6 (.ol (nat_lit 257) (.flat Zpw))]),(8,[.reg 127 (.dat Iq),.cello 1020 6 (.ol (nat_lit 257) (.flat Zpw))])],draws:=[(1,[0,0,2,6,15,31,63],.op 0 (.op 1 (.op 2 (.alt 3 (.op 4 (.alt 5 (.op 6 (.done)) (.done))) (.done))))),(6,[0,0,2,6,14,0,0,0,224,510,1023,2047,4095],.op 0 (.op 1 (.op 2 (.op 3 (.op 4 (.op 5 (.op 6 (.op 7 (.alt 8 (.alt 9 (.op 10 (.op 11 (.alt 12 (.done) (.done)))) (.done)) (.done)))))))))),(16,[0,0,2,0,0,16,56,120,0,256,1016,2047,4095],.op 0 (.op 1 (.op 3 (.op 4 (.op 5 (.op 6 (.op 7 (.op 8 (.ld 2 (.alt 9 (.alt 10 (.op 11 (.alt 12 (.done) (.done))) (.done)) (.done))))))))))),(21,[0,0,2,6,14,0,0,96,224,480,992,2046,4095,8191,16383],.op 0 (.op 1 (.op 2 (.op 3 (.op 4 (.op 5 (.op 6 (.alt 7 (.op 8 (.op 9 (.alt 10 (.alt 11 (.op 12 (.op 13 (.alt 14 (.done) (.done)))) (.done)) (.done)))) (.done))))))))),(22,[0,0,2,6,14,0,0,96,224,510,1023,2047,4095],.op 0 (.op 1 (.op 2 (.op 3 (.op 4 (.op 5 (.op 6 (.alt 7 (.alt 8 (.alt 9 (.op 10 (.op 11 (.alt 12 (.done) (.done)))) (.done)) (.done)) (.done))))))))),(29,[0,0,2,6,14,0,0,96,224,480,0,2016,0,4096,0,28672,0,131040,262112,524286,1048575,2097151,4194303],.op 0 (.op 1 (.op 2 (.op 3 (.op 4 (.op 5 (.op 6 (.op 7 (.op 8 (.op 9 (.op 10 (.op 11 (.op 12 (.op 13 (.op 14 (.op 15 (.op 16 (.op 17 (.alt 18 (.alt 19 (.op 20 (.op 21 (.alt 22 (.done) (.done)))) (.done)) (.done))))))))))))))))))))]} Tryz.func98 (hvc:=?_)),
 (fun q0 q1=>Zf Zq (Zd q0 (Zd q1 Zk)) mixed {} Tryz.func187 (hvc:=?_)),
 (fun q2 q5 q1 q3 q0 q4=>Zf Zq (Zd q2 (Zd q5 (Zd q1 (Zd q3 (Zd q0 (Zd q4 Zk)))))) mixed {} Tryz.func99 (hvc:=?_)),
 (Zf Zq Zk mixed {} Tryz.func245 (hvc:=?_)),
 (fun q0=>Zf Zq (Zd q0 Zk) mixed {loops:=[(0,[.reg 5 (.dat Iq)])],draws:=[(6,[0,0,3,7,0,0,48,112,255,511],.op 0 (.op 1 (.op 2 (.op 3 (.op 4 (.op 5 (.op 6 (.op 7 (.alt 8 (.op 9 (.done)) (.done))))))))))]} Tryz.func67 (hvc:=?_)),
 (fun q0 q1 q2=>Zf Zq (Zd q0 (Zd q1 (Zd q2 Zk))) mixed {} Tryz.func62 (hvc:=?_)),
 (Zf Zq Zk mixed {} Tryz.func312 (hvc:=?_)),
 (fun q0=>Zf Zq (Zd q0 Zk) mixed {loops:=[(0,[.reg 5 (.dat Iq)])],draws:=[(6,[0,0,3,7,0,0,48,112,255,511],.op 0 (.op 1 (.op 2 (.op 3 (.op 4 (.op 5 (.op 6 (.op 7 (.alt 8 (.op 9 (.done)) (.done))))))))))]} Tryz.func278 (hvc:=?_)),
 (fun q0=>Zf Zq (Zd q0 Zk) mixed {loops:=[(0,[.reg 5 (.dat Iq)])],draws:=[(6,[0,0,3,7,0,0,48,112,255,511],.op 0 (.op 1 (.op 2 (.op 3 (.op 4 (.op 5 (.op 6 (.op 7 (.alt 8 (.op 9 (.done)) (.done))))))))))]} Tryz.func132 (hvc:=?_)),
 (fun q0 q1 q2=>Zf Zq (Zd q0 (Zd q1 (Zd q2 Zk))) mixed {} Tryz.func12 (hvc:=?_)),
 (Zf Zq Zk mixed {loops:=[(0,[.reg 5 (.dat Iq)])],draws:=[(6,[0,0,3,7,0,0,48,112,255],.op 0 (.op 1 (.op 2 (.op 3 (.op 4 (.op 5 (.op 6 (.op 7 (.op 8 (.done))))))))))]} Tryz.func131 (hvc:=?_)),
 (fun q0=>Zf Zq (Zd q0 Zk) mixed {loops:=[(0,[.reg 1 (.dat Iq),.reg 5 (.dat Iq)])],draws:=[(4,[0,0,3,7,15,0,32,127],.op 0 (.op 1 (.op 2 (.op 3 (.op 4 (.op 5 (.alt 6 (.op 7 (.done)) (.done))))))))]} Tryz.func146 (hvc:=?_)),
 (fun q0 q1 q2=>Zf Zq (Zd q0 (Zd q1 (Zd q2 Zk))) mixed {} Tryz.func144 (hvc:=?_)),
 (fun q0=>Zf Zq (Zd q0 Zk) mixed {loops:=[(0,[.reg 1 (.dat Iq),.reg 5 (.dat Iq)])]} Tryz.func148 (hvc:=?_)),
 (Zf Zq Zk mixed {loops:=[(0,[.reg 1 (.dat Iq),.reg 5 (.dat Iq)])]} Tryz.func147 (hvc:=?_)),
 (fun q0=>Zf Zq (Zd q0 Zk) mixed {} Tryz.func143 (hvc:=?_)),
 (fun q0=>Zf Zq (Zd q0 Zk) mixed {loops:=[(0,[.reg 1 (.dat Iq),.reg 5 (.dat Iq)])],draws:=[(4,[0,0,3,7,15,0,32,127],.op 0 (.op 1 (.op 2 (.op 3 (.op 4 (.op 5 (.alt 6 (.op 7 (.done)) (.done))))))))]} Tryz.func221 (hvc:=?_)),
 (fun q0 q1 q2=>Zf Zq (Zd q0 (Zd q1 (Zd q2 Zk))) mixed {} Tryz.func24 (hvc:=?_)),
 (fun q0 q1 q2=>Zf Xa (Zd q0 (Zd q1 (Zd q2 Zk))) mixed {} Tryz.func21 (hvc:=?_)),
 (fun q1 q2 q3 q0=>Zf Xa (Zd q1 (Zd q2 (Zd q3 (Zd q0 Zk)))) mixed {loops:=[(0,[.reg 1 (.dat Iq),.reg 5 (.dat Iq),.ent 0 (nat_lit 277) (Dp.pair (Dp.flat Ty.str) (Dp.pair (Dp.flat (Ty.int IntKind.i64)) (Dp.pair (Dp.ol (285:Go.TypeId) (Dp.flat ZgP)) (Dp.pair (Dp.ol (289:Go.TypeId) Zxz) (Dp.pair (Dp.ol (2:Go.TypeId) (Dp.flat (Ty.int IntKind.i64))) (Dp.pair (Dp.flat (Ty.int IntKind.i64)) (Dp.pair (Dp.flat (Ty.int IntKind.i64)) (Dp.flat Ty.unit))))))))])]} Tryz.func137 (hvc:=?_)),
 (fun q0=>Zf Xa (Zd q0 Zk) mixed {loops:=[(0,[.reg 1 (.dat Iq),.reg 5 (.dat Iq),.ent 0 (nat_lit 193) (.flat Xf)])]} Tryz.func74 (hvc:=?_)),
 (fun q0=>Zf Xa (Zd q0 Zk) mixed {} Tryz.func34 (hvc:=?_)),
 (fun q0=>Zf Xa (Zd q0 Zk) mixed {} Tryz.func68 (hvc:=?_)),
 (fun q0=>Zf Xa (Zd q0 Zk) mixed {loops:=[(0,[.reg 1 (.dat Iq),.reg 5 (.dat Iq),.ent 0 (nat_lit 246) (.flat Zcd)])]} Tryz.func140 (hvc:=?_)),
 (fun q0=>Zf Xa (Zd q0 Zk) mixed {loops:=[(0,[.reg 1 (.dat Iq),.reg 5 (.dat Iq),.ent 0 (nat_lit 9) (.flat Ty.str)])]} Tryz.func139 (hvc:=?_)),
 (Zf Zq Zk mixed {loops:=[(0,[.reg 0 (.dat Iq),.reg 3 (.dat (.str))])]} Tryz.func142 (hvc:=?_)),
 (fun q1 q2 q0=>Zf Zq (Zd q1 (Zd q2 (Zd q0 Zk))) mixed {} Tryz.func197 (hvc:=?_)),
 (fun q0 q1 q2=>Zf Zq (Zd q0 (Zd q1 (Zd q2 Zk))) mixed {} Tryz.func43 (hvc:=?_)),
 (fun q0=>Zf Zq (Zd q0 Zk) mixed {loops:=[(0,[.reg 1 (.dat Iq),.reg 5 (.dat Iq)])]} Tryz.func47 (hvc:=?_)),
 (fun q0=>Zf Zq (Zd q0 Zk) mixed {} Tryz.func198 (hvc:=?_)),
 (fun q0=>Zf Zq (Zd q0 Zk) mixed {loops:=[(0,[.reg 1 (.dat Iq),.reg 5 (.dat Iq)])]} Tryz.func273 (hvc:=?_)),
 (fun q0=>Zf Zq (Zd q0 Zk) mixed {loops:=[(0,[.reg 1 (.dat Iq),.reg 5 (.dat Iq)])]} Tryz.func105 (hvc:=?_)),
 (fun q0 q1 q2=>Zf Zq (Zd q0 (Zd q1 (Zd q2 Zk))) mixed {} Tryz.func8 (hvc:=?_)),
 (Zf Zq Zk mixed {loops:=[(0,[.reg 1 (.dat Iq),.reg 5 (.dat Iq)])]} Tryz.func104 (hvc:=?_)),
 (fun q0=>Zf Zq (Zd q0 Zk) mixed {loops:=[(0,[.reg 1 (.dat Iq),.reg 5 (.dat Iq)])]} Tryz.func336 (hvc:=?_)),
 (fun q0=>Zf Zq (Zd q0 Zk) mixed {loops:=[(0,[.reg 1 (.dat Iq),.reg 5 (.dat Iq)])]} Tryz.func44 (hvc:=?_)),
 (fun q1 q2 q0=>Zf Xa (Zd q1 (Zd q2 (Zd q0 Zk))) mixed {} Tryz.func202 (hvc:=?_)),
 (fun q0=>Zf Zq (Zd q0 Zk) mixed {} Tryz.func120 (hvc:=?_)),
 (fun q0=>Zf Xa (Zd q0 Zk) mixed {loops:=[(0,[.reg 4 (.dat Iq),.ent 0 (nat_lit 155) ZaM])]} Tryz.func57 (hvc:=?_)),
 (fun q0=>Zf Zq (Zd q0 Zk) mixed {} Tryz.func119 (hvc:=?_)),
 (fun q0=>Zf Zq (Zd q0 Zk) mixed {loops:=[(0,[.reg 4 (.dat Iq),.ent 0 (nat_lit 187) (.flat ZAT.ety)])]} Tryz.func56 (hvc:=?_)),
 (fun q0=>Zf Zq (Zd q0 Zk) mixed {loops:=[(0,[.reg 4 (.dat Iq),.ent 0 (nat_lit 285) (.flat Zxe.ety)])]} Tryz.func276 (hvc:=?_)),
 (Zf Zq Zk mixed {} Tryz.func204 (hvc:=?_)),
 (fun q0 q1 q2=>Zf Xa (Zd q0 (Zd q1 (Zd q2 Zk))) mixed {} Tryz.func10 (hvc:=?_)),
 (Zf Zq Zk mixed {} Tryz.func125 (hvc:=?_)),
 (fun q0=>Zf Zq (Zd q0 Zk) mixed {} Tryz.func367 (hvc:=?_)),
 (fun q0=>Zf Zq (Zd q0 Zk) mixed {} Tryz.func289 (hvc:=?_)),
 (fun q0=>Zf Zq (Zd q0 Zk) mixed {} Tryz.func295 (hvc:=?_)),
 (Zf Zq Zk mixed {loops:=[(0,[.reg 13 (.dat Iq)])],draws:=[(6,[0,0,3,7,0,0,48,112,255],.op 0 (.op 1 (.op 2 (.op 3 (.op 4 (.op 5 (.op 6 (.op 7 (.op 8 (.done))))))))))]} Tryz.func327 (hvc:=?_)),
 (fun q0=>Zf Zq (Zd q0 Zk) mixed {loops:=[(0,[.reg 8 (.dat Iq)])]} Tryz.func257 (hvc:=?_)),
 (fun q0=>Zf Zq (Zd q0 Zk) mixed {loops:=[(0,[.reg 8 (.dat Iq)])]} Tryz.func371 (hvc:=?_)),
 (fun q0=>Zf Zq (Zd q0 Zk) mixed {loops:=[(0,[.reg 8 (.dat Iq)])]} Tryz.func377 (hvc:=?_)),
 (fun q0=>Zf Zq (Zd q0 Zk) mixed {loops:=[(0,[.reg 8 (.dat Iq)])]} Tryz.func326 (hvc:=?_)),
 (Zf Zq Zk mixed {loops:=[(0,[.reg 8 (.dat Iq)])]} Tryz.func306 (hvc:=?_)),
 (fun q3 q0 q1 q2=>Zf Zq (Zd q3 (Zd q0 (Zd q1 (Zd q2 Zk)))) mixed {} Tryz.func222 (hvc:=?_)),
 (fun q1 q0=>Zf Zq (Zd q1 (Zd q0 Zk)) mixed {loops:=[(0,[.reg 4 (.dat Iq)])]} Tryz.func174 (hvc:=?_)),
 (fun q0=>Zf Zq (Zd q0 Zk) mixed {loops:=[(0,[.reg 3 (.dat Iq)]),(2,[.reg 4 (.dat Iq)])],draws:=[(9,[0,1,0,7,15,31,0,64,0,448,960,1984,4095],.op 0 (.op 1 (.op 2 (.op 3 (.op 4 (.op 5 (.op 6 (.op 7 (.op 8 (.op 9 (.op 10 (.op 11 (.op 12 (.done))))))))))))))]} Tryz.func234 (hvc:=?_)),
 (fun q5 q4 q2 q3 q1 q0=>Zf Zq (Zd q5 (Zd q4 (Zd q2 (Zd q3 (Zd q1 (Zd q0 Zk)))))) mixed {loops:=[(0,[.reg 5 (.dat Iq)]),(2,[.reg 6 (.dat Iq)])],draws:=[(6,[0,1,0,7,15,31,0,64,192,448,1023],.op 0 (.op 1 (.op 2 (.op 3 (.op 4 (.op 5 (.op 6 (.op 7 (.alt 8 (.op 9 (.op 10 (.done))) (.done)))))))))),(11,[0,0,2,0,14,30,63,127],.op 0 (.op 1 (.op 2 (.op 3 (.op 4 (.op 5 (.alt 6 (.op 7 (.done)) (.done))))))))]} Tryz.func36 (hvc:=?_)),
 (fun q0=>Zf Zq (Zd q0 Zk) mixed {loops:=[(0,[.reg 6 (.dat Iq)]),(2,[.reg 7 (.dat Iq)])]} Tryz.func168 (hvc:=?_)),
 (fun q1 q4 q0 q2 q3=>Zf Xa (Zd q1 (Zd q4 (Zd q0 (Zd q2 (Zd q3 Zk))))) mixed {draws:=[(6,[0,0,3,0,15,31,63,63,0,383,1023],.op 0 (.op 1 (.op 3 (.alt 2 (.alt 4 (.op 5 (.op 6 (.op 7 (.alt 8 (.alt 9 (.op 10 (.done)) (.done)) (.done))))) (.alt 8 (.alt 4 (.op 5 (.op 6 (.op 7 (.alt 9 (.op 10 (.done)) (.done))))) (.done)) (.done))) (.alt 8 (.alt 2 (.alt 4 (.op 5 (.op 6 (.op 7 (.alt 9 (.op 10 (.done)) (.done))))) (.done)) (.done)) (.done)))))),(7,[0,1,3,7,7,31,7,127,255,511],.op 0 (.op 1 (.op 2 (.op 3 (.op 4 (.op 6 (.alt 5 (.alt 7 (.op 8 (.op 9 (.done))) (.done)) (.done))))))))]} Tryz.func151 (hvc:=?_)),
 (fun q0=>Zf Zq (Zd q0 Zk) mixed {loops:=[(0,[.reg 5 (.dat Iq),.cell 1004 0 Iq,.cell 1004 1 Iq])],draws:=[(3,[0,1,3,7,0,16,48,112,255,0,1023],.op 0 (.op 1 (.op 2 (.op 3 (.op 4 (.op 5 (.op 6 (.op 7 (.op 8 (.alt 9 (.alt 10 (.done) (.done)) (.done))))))))))),(7,[0,1,0,4,0,28,60,127,255,511],.op 0 (.op 1 (.op 2 (.op 3 (.op 4 (.op 5 (.op 6 (.op 7 (.op 8 (.alt 9 (.done) (.done))))))))))),(8,[0,1,0,4,0,28,60,127,255,511],.op 0 (.op 1 (.op 2 (.op 3 (.op 4 (.op 5 (.op 6 (.op 7 (.op 8 (.alt 9 (.done) (.done)))))))))))]} Tryz.func356 (hvc:=?_)),
 (Zf Zq Zk mixed {} Tryz.func172 (hvc:=?_)),
 (Zf Zq Zk mixed {} Tryz.func201 (hvc:=?_)),
 (fun q0=>Zf Zq (Zd q0 Zk) mixed {draws:=[(1,[0,1,3,0,8,31,0,64,255,511,1023],.op 0 (.op 1 (.op 3 (.op 4 (.op 6 (.op 7 (.alt 2 (.alt 5 (.alt 8 (.op 9 (.alt 10 (.done) (.done))) (.done)) (.done)) (.done))))))))]} Tryz.func309 (hvc:=?_)),
 (fun q1 q0=>Zf Zq (Zd q1 (Zd q0 Zk)) mixed {} Tryz.func321 (hvc:=?_)),
 (Zf Zq Zk mixed {loops:=[(0,[.reg 5 (.dat Iq)])],draws:=[(6,[0,1,0,7,15,31,0,64,0,448,960,1984,4095],.op 0 (.op 1 (.op 2 (.op 3 (.op 4 (.op 5 (.op 6 (.op 7 (.op 8 (.op 9 (.op 10 (.op 11 (.op 12 (.done))))))))))))))]} Tryz.func315 (hvc:=?_)),
 (Zf Zq Zk mixed {} Tryz.func316 (hvc:=?_)),
 (fun q0 q1=>Zf Zq (Zd q0 (Zd q1 Zk)) mixed {loops:=[(0,[.reg 4 (.dat Iq),.ent 2 (nat_lit 2) (.flat Zvn.ety)]),(2,[.reg 6 (.dat Iq),.ent 2 (nat_lit 2) (.flat Zvn.ety)])],draws:=[(9,[0,0,0,6,14,0,32,0,224,480,992,0,4064,8160,16383,32767],.op 0 (.op 1 (.op 2 (.op 3 (.op 4 (.op 5 (.op 6 (.op 7 (.op 8 (.op 9 (.op 10 (.op 11 (.op 12 (.op 13 (.op 14 (.alt 15 (.done) (.done)))))))))))))))))]} Tryz.func226 (hvc:=?_)),
 (fun q0 q1=>Zf Zq (Zd q0 (Zd q1 Zk)) mixed {draws:=[(9,[0,1,0,4,15,31,63,127,63,319,1023,2047,4095,8191,16383,8191,40959,8191,139263,499711,1023999,2072575,4169727,8364031,16777215,33554431,67108863],.op 0 (.op 1 (.op 2 (.op 3 (.alt 4 (.op 5 (.op 6 (.op 7 (.op 8 (.op 9 (.alt 10 (.op 11 (.op 12 (.op 13 (.op 14 (.op 15 (.op 16 (.op 17 (.op 18 (.op 19 (.op 20 (.op 21 (.op 22 (.op 23 (.alt 24 (.op 25 (.op 26 (.done))) (.done))))))))))))))) (.done))))))) (.done))))))]} Tryz.func284 (hvc:=?_)),
 (Zf Zq Zk mixed {} Tryz.func176 (hvc:=?_)),
 (fun q0=>Zf Zq (Zd q0 Zk) mixed {} Tryz.func171 (hvc:=?_)),
 (fun q0=>Zf Zq (Zd q0 Zk) mixed {loops:=[(0,[.reg 3 (.dat Iq)]),(2,[.reg 4 (.dat Iq)])],draws:=[(9,[0,0,3,7,15,0,0,96,224,480,1023],.op 0 (.op 1 (.op 2 (.op 3 (.op 4 (.op 5 (.op 6 (.op 7 (.op 8 (.op 9 (.op 10 (.done))))))))))))]} Tryz.func93 (hvc:=?_)),
 (fun q1 q0=>Zf Xa (Zd q1 (Zd q0 Zk)) mixed {loops:=[(0,[.reg 6 (.own (.ol 150 (.flat (XF)))),.reg 7 (.dat Iq)]),(2,[.reg 9 (.own (.ol 155 (ZaM))),.reg 10 (.dat (.bool)),.reg 11 (.dat Iq)])],draws:=[(20,[0,0,2,0,14,0,32,0,254,0,0,2047,0,4095,16383],.op 0 (.op 1 (.op 2 (.op 3 (.op 5 (.op 6 (.op 7 (.op 9 (.op 10 (.op 12 (.alt 4 (.alt 8 (.op 11 (.alt 13 (.op 14 (.done)) (.done))) (.done)) (.done))))))))))))]} Tryz.func49 (hvc:=?_)),
 (Zf Zq Zk mixed {loops:=[(0,[.reg 5 (.own (.ol 187 (.flat (Yg)))),.reg 6 (.dat Iq)])]} Tryz.func110 (hvc:=?_)),
 (fun q0=>Zf Zq (Zd q0 Zk) mixed {} Tryz.func154 (hvc:=?_))⟩
 all_goals
  intro a
  repeat rcases a with ⟨_,a⟩
  rintro K ⟨r,h,hK⟩
  repeat'
    conv=>whnf
    first
    | with_reducible refine ZvK ?_
    | with_reducible refine ZeS (by assumption) (by assumption) (by assumption) ?_
    | with_reducible refine QO (by assumption) ?_
    | with_reducible refine ZeX (by assumption) ?_
    | (with_reducible refine shD ?_);first | refine ZsV h (fun h=>?_) (fun h=>?_) | refine Zvc h (fun h=>?_) (fun h=>?_)
    | (with_reducible refine Zvw ?_);first | refine Zzx ?_ | refine Zs3 ?_
    | (with_reducible refine ZAC ?_);first | refine ZuI h (fun h=>?_) (fun h=>?_) | refine Zvv h (fun h=>?_) (fun h=>?_)
    | (with_reducible refine Zva ?_);(refine ⟨fun hd=>?_,?_⟩)<;>try subst hd
    | (with_reducible refine ZAt ?_);first | with_reducible refine Zc5 h (fun x hb h=>?_) | refine ZeX (by assumption) ?_ | with_reducible refine pG h (fun hp h=>?_) | with_reducible refine pA h (fun x ha hb hx h=>?_) | with_reducible refine pB h (fun x hb h=>?_) | refine Zc5 h (fun x hb h=>?_)
    | (with_reducible refine ZAA ?_);first | with_reducible refine vAt h (fun x ha hb hx h=>?_) | refine ZeS (by assumption) (by assumption) (by assumption) ?_ | with_reducible refine pG h (fun hp h=>?_) | with_reducible refine pA h (fun x ha hb hx h=>?_) | with_reducible refine pB h (fun x hb h=>?_) | refine vAt h (fun x ha hb hx h=>?_)
    | (with_reducible refine ZvL ?_);first | with_reducible refine Zok h (fun x hb h=>?_) | refine QO (by assumption) ?_ | with_reducible refine pG h (fun hp h=>?_) | with_reducible refine pA h (fun x ha hb hx h=>?_) | with_reducible refine pB h (fun x hb h=>?_) | refine Zok h (fun x hb h=>?_)
    | with_reducible refine ZAF ?_
    | (with_reducible refine ZqE ?_);refine ZqA h hK ?_;clear h hK;intro I μ v r h hK;(repeat rcases v with ⟨_,v⟩);(try dsimp only at h)
    | with_reducible refine ⟨by assumption,?_⟩
    | with_reducible refine orL ?_
    | with_reducible refine .inr ?_
    | (with_reducible refine ZvB ?_);first | refine ⟨?_,True.intro⟩ | refine ⟨?_,?_⟩
    | refine ⟨by kernel_rfl,?_⟩
    | refine ⟨by decide,?_⟩
    | with_reducible refine ZpS h (fun hp h=>?_)
    | intro fp
    | exact trivial
    | with_reducible exact Zvu h
    | (refine pS h (fun e=>?_));subst e;(repeat (first | exact hK | exact ⟨⟨rfl,rfl⟩,hK.1 _ rfl⟩ | (refine pR hK (fun e hK=>?_));subst e));done
    | refine ZpS h (fun hp h=>?_)
    | refine ⟨by assumption,?_⟩
    | with_reducible refine pG h (fun hp h=>?_) | with_reducible refine pA h (fun x ha hb hx h=>?_) | with_reducible refine pB h (fun x hb h=>?_)
    | refine pG h (fun hp h=>?_)
    | fail
theorem Zp0 (rec0:(List Zl)→Int→Option ZeK) (hrec:Sq 294 (Zei rec0)):Sq 294 (Zei (ZaG rec0)):=by
 refine Zf Zq (Zd hrec Zk) mixed {} (fn:=Tryz.f294) Tryz.func294 (by kernel_rfl) (by kernel_rfl) ?_
 rintro ⟨list0,k0,⟨⟩⟩ K ⟨r,h,hK⟩
 change ZaG rec0 list0 k0=some r at h
 unfold ZaG at h
 conv=>whnf
 refine vAt h (fun x0 he0a he0b he0x h=>?_)
 conv=>whnf
 refine ZsV h (fun h=>?_) (fun h=>?_)
 conv=>whnf
 cases h
 exact hK
 conv=>whnf
 refine Zc5 h (fun r0 hb1 h=>?_)
 conv=>whnf
 refine ZsV h (fun h=>?_) (fun h=>?_)
 conv=>whnf
 refine ⟨by decide,?_⟩
 conv=>whnf
 refine ZuI h (fun h=>?_) (fun h=>?_)
 conv=>whnf
 cases h
 exact hK
 conv=>whnf
 cases h
 exact hK
 conv=>whnf
 refine ZuI h (fun h=>?_) (fun h=>?_)
 conv=>whnf
 cases h
 exact hK
 conv=>whnf
 cases h
 exact hK
theorem ZRz:Sq 294 ZA5:=by
 have hn:∀ n,Sq 294 (Zei (Zao n)):=by
  intro n
  induction n with
  | zero =>
  refine Zf Zq Zk mixed {} (fn:=Tryz.f294) Tryz.func294 (by kernel_rfl) (by kernel_rfl) ?_
  rintro ⟨list0,k0,⟨⟩⟩ K ⟨r,h,hK⟩
  cases h
  | succ n ih=>exact Zp0 _ ih
 refine ⟨(hn 0).1,?_⟩
 rintro w S vs ⟨list0,k0,⟨⟩⟩ fp K h1 h2 h3 h4 ⟨r,h,hK⟩
 obtain ⟨n,hr⟩:=ZsX h
 exact (hn n).2 w S vs _ fp K h1 h2 h3 h4 ⟨r,hr,hK⟩
theorem w_laws_FnExactEditSession (q4:Sq 8 c29) (q8:Sq 29 c27) (q5:Sq 10 c61) (q9:Sq 31 c59) (q0:Sq 30 ZBK) (q1:Sq 32 ZEu) (q6:Sq 12 ZPw) (q10:Sq 33 ZP1) (q2:Sq 23 ZQh) (q7:Sq 34 ZPL) (q3:Sq 24 ZPQ):Sq 7 ZJ1:=by
 refine Zf Zq (Zd q4 (Zd q8 (Zd q5 (Zd q9 (Zd q0 (Zd q1 (Zd q6 (Zd q10 (Zd q2 (Zd q7 (Zd q3 Zk))))))))))) mixed {draws:=[(8,[0,1,0,7,15,31,63,63,0,383,1023],.op 0 (.op 2 (.alt 1 (.alt 3 (.alt 4 (.op 5 (.op 6 (.op 7 (.alt 8 (.alt 9 (.op 10 (.done)) (.done)) (.done))))) (.alt 8 (.alt 4 (.op 5 (.op 6 (.op 7 (.alt 9 (.op 10 (.done)) (.done))))) (.done)) (.done))) (.alt 8 (.alt 3 (.alt 4 (.op 5 (.op 6 (.op 7 (.alt 9 (.op 10 (.done)) (.done))))) (.done)) (.done)) (.done))) (.alt 8 (.alt 1 (.alt 3 (.alt 4 (.op 5 (.op 6 (.op 7 (.alt 9 (.op 10 (.done)) (.done))))) (.done)) (.done)) (.done)) (.done))))),(14,[0,0,2,7,15],.op 0 (.op 1 (.alt 2 (.alt 3 (.op 4 (.done)) (.done)) (.done)))),(16,[0,0,2,7,15],.op 0 (.op 1 (.alt 2 (.alt 3 (.op 4 (.done)) (.done)) (.done)))),(31,[0,1,0,7,15,31,63,63,0,383,1023],.op 0 (.op 2 (.alt 1 (.alt 3 (.alt 4 (.op 5 (.op 6 (.op 7 (.alt 8 (.alt 9 (.op 10 (.done)) (.done)) (.done))))) (.alt 8 (.alt 4 (.op 5 (.op 6 (.op 7 (.alt 9 (.op 10 (.done)) (.done))))) (.done)) (.done))) (.alt 8 (.alt 3 (.alt 4 (.op 5 (.op 6 (.op 7 (.alt 9 (.op 10 (.done)) (.done))))) (.done)) (.done)) (.done))) (.alt 8 (.alt 1 (.alt 3 (.alt 4 (.op 5 (.op 6 (.op 7 (.alt 9 (.op 10 (.done)) (.done))))) (.done)) (.done)) (.done)) (.done)))))]} (fn:=Tryz.f7) Tryz.func7 (by kernel_rfl) (by kernel_rfl) ?_
 rintro ⟨a0,a1,⟨⟩⟩ K ⟨r,h,hK⟩
 change ZIU a0 a1=some r at h
 unfold ZIU at h
 conv=>whnf
 refine Zc5 h (fun szSession0 hb0 h=>?_)
 conv=>whnf
 refine ZsV h (fun h=>?_) (fun h=>?_)
 conv=>whnf
 cases h
 exact hK
 conv=>whnf
 refine Zc5 h (fun szEdit0 hb1 h=>?_)
 conv=>whnf
 refine ZsV h (fun h=>?_) (fun h=>?_)
 conv=>whnf
 cases h
 exact hK
 focus
  conv=>whnf
  refine ⟨by kernel_rfl,?_⟩
  conv=>whnf
  obtain ⟨toSession0,hb2,h⟩:=Option.bind_eq_some_iff.1 h
  obtain ⟨toEdit0,hb9,h⟩:=Option.bind_eq_some_iff.1 h
  obtain ⟨EditSession0,hb10,h⟩:=Option.bind_eq_some_iff.1 h
  refine ⟨?_,?_⟩
  rotate_left
  focus
   conv=>whnf
   refine ⟨_,hb2,?_⟩
   conv=>whnf
   intro fp61
   conv=>whnf
   intro fp62
   conv=>whnf
   intro fp63
   conv=>whnf
   intro fp64
   conv=>whnf
   intro fp65
   conv=>whnf
   intro fp66
   conv=>whnf
   refine ⟨_,hb9,?_⟩
   conv=>whnf
   refine ⟨_,hb10,?_⟩
   conv=>whnf
   refine ⟨trivial,?_⟩
  rotate_right
  focus
   conv=>whnf
   refine ⟨_,hb2,?_⟩
   conv=>whnf
   intro fp61
   conv=>whnf
   intro fp62
   conv=>whnf
   intro fp63
   conv=>whnf
   intro fp64
   conv=>whnf
   intro fp65
   conv=>whnf
   intro fp66
   conv=>whnf
   refine ⟨?_,?_⟩
   rotate_left
   focus
    conv=>whnf
    refine ⟨_,hb9,?_⟩
    conv=>whnf
    refine ⟨_,hb10,?_⟩
    conv=>whnf
    refine ⟨trivial,?_⟩
   rotate_right
   focus
    conv=>whnf
    refine ⟨_,hb9,?_⟩
    conv=>whnf
    refine ⟨?_,?_⟩
    rotate_left
    focus
     conv=>whnf
     refine ⟨_,hb10,?_⟩
     conv=>whnf
     refine ⟨trivial,?_⟩
    rotate_right
    focus
     conv=>whnf
     refine ⟨_,hb10,?_⟩
     conv=>whnf
     refine ⟨trivial,?_⟩
  all_goals
   conv=>whnf
   refine ⟨_,hb2,?_⟩
   conv=>whnf
   intro fp11
   conv=>whnf
   intro fp12
   conv=>whnf
   intro fp13
   conv=>whnf
   intro fp14
   conv=>whnf
   intro fp15
   conv=>whnf
   intro fp16
   conv=>whnf
   refine ⟨_,hb9,?_⟩
   conv=>whnf
   refine Zc5 h (fun EditSession1 hb17 h=>?_)
   conv=>whnf
   intro fp18
   conv=>whnf
   intro fp19
   conv=>whnf
   intro fp20
   conv=>whnf
   intro fp21
   conv=>whnf
   intro fp22
   conv=>whnf
   intro fp23
   conv=>whnf
   refine Zc5 h (fun eqSession0 hb24 h=>?_)
   conv=>whnf
   refine Zzx ?_
   refine ZuI h (fun h=>?_) (fun h=>?_)
   conv=>whnf
   refine Zs3 ?_
   refine ZsV h (fun h=>?_) (fun h=>?_)
   conv=>whnf
   refine ⟨by kernel_rfl,?_⟩
   conv=>whnf
   refine ⟨_,hb2,?_⟩
   conv=>whnf
   intro fp25
   conv=>whnf
   intro fp26
   conv=>whnf
   intro fp27
   conv=>whnf
   intro fp28
   conv=>whnf
   intro fp29
   conv=>whnf
   intro fp30
   conv=>whnf
   refine Zc5 h (fun eqSession1 hb31 h=>?_)
   conv=>whnf
   refine ⟨trivial,?_⟩
   conv=>whnf
   refine Zs3 ?_
   refine ZuI h (fun h=>?_) (fun h=>?_)
   conv=>whnf
   refine ⟨by kernel_rfl,?_⟩
   conv=>whnf
   refine ⟨_,hb9,?_⟩
   conv=>whnf
   refine Zc5 h (fun eqEdit0 hb32 h=>?_)
   conv=>whnf
   refine ⟨trivial,?_⟩
   conv=>whnf
   refine Zs3 ?_
   refine ZuI h (fun h=>?_) (fun h=>?_)
   conv=>whnf
   refine Zc5 h (fun markSession0 hb33 h=>?_)
   conv=>whnf
   intro fp34
   conv=>whnf
   intro fp35
   conv=>whnf
   intro fp36
   conv=>whnf
   intro fp37
   conv=>whnf
   intro fp38
   conv=>whnf
   intro fp39
   conv=>whnf
   refine Zc5 h (fun markEdit0 hb40 h=>?_)
   conv=>whnf
   refine Zvc h (fun h=>?_) (fun h=>?_)
   conv=>whnf
   cases h
   exact hK
   conv=>whnf
   refine ⟨_,hb24,?_⟩
   conv=>whnf
   refine Zzx ?_
   refine ZuI h (fun h=>?_) (fun h=>?_)
   conv=>whnf
   refine Zs3 ?_
   refine ZsV h (fun h=>?_) (fun h=>?_)
   conv=>whnf
   refine Zc5 h (fun markSession1 hb41 h=>?_)
   conv=>whnf
   intro fp42
   conv=>whnf
   intro fp43
   conv=>whnf
   intro fp44
   conv=>whnf
   intro fp45
   conv=>whnf
   intro fp46
   conv=>whnf
   intro fp47
   conv=>whnf
   refine Zc5 h (fun heldSession0 hb48 h=>?_)
   conv=>whnf
   refine ZsV h (fun h=>?_) (fun h=>?_)
   conv=>whnf
   cases h
   exact hK
   conv=>whnf
   refine Zs3 ?_
   refine ZsV h (fun h=>?_) (fun h=>?_)
   focus
    conv=>whnf
    refine ⟨by kernel_rfl,?_⟩
    conv=>whnf
    refine ⟨?_,?_⟩
    rotate_left
    focus
     conv=>whnf
     refine ⟨_,hb2,?_⟩
     conv=>whnf
     intro fp49
     conv=>whnf
     intro fp50
     conv=>whnf
     intro fp51
     conv=>whnf
     intro fp52
     conv=>whnf
     intro fp53
     conv=>whnf
     intro fp54
     conv=>whnf
     refine ⟨_,hb9,?_⟩
     conv=>whnf
     refine ⟨_,hb17,?_⟩
     conv=>whnf
     intro fp55
     conv=>whnf
     intro fp56
     conv=>whnf
     intro fp57
     conv=>whnf
     intro fp58
     conv=>whnf
     intro fp59
     conv=>whnf
     intro fp60
     conv=>whnf
     refine ⟨trivial,?_⟩
    rotate_right
    focus
     conv=>whnf
     refine ⟨_,hb2,?_⟩
     conv=>whnf
     intro fp49
     conv=>whnf
     intro fp50
     conv=>whnf
     intro fp51
     conv=>whnf
     intro fp52
     conv=>whnf
     intro fp53
     conv=>whnf
     intro fp54
     conv=>whnf
     refine ⟨?_,?_⟩
     rotate_left
     focus
      conv=>whnf
      refine ⟨_,hb9,?_⟩
      conv=>whnf
      refine ⟨_,hb17,?_⟩
      conv=>whnf
      intro fp55
      conv=>whnf
      intro fp56
      conv=>whnf
      intro fp57
      conv=>whnf
      intro fp58
      conv=>whnf
      intro fp59
      conv=>whnf
      intro fp60
      conv=>whnf
      refine ⟨trivial,?_⟩
     rotate_right
     focus
      conv=>whnf
      refine ⟨_,hb9,?_⟩
      conv=>whnf
      refine ⟨?_,?_⟩
      rotate_left
      focus
       conv=>whnf
       refine ⟨_,hb17,?_⟩
       conv=>whnf
       intro fp55
       conv=>whnf
       intro fp56
       conv=>whnf
       intro fp57
       conv=>whnf
       intro fp58
       conv=>whnf
       intro fp59
       conv=>whnf
       intro fp60
       conv=>whnf
       refine ⟨trivial,?_⟩
      rotate_right
      focus
       conv=>whnf
       refine ⟨_,hb17,?_⟩
       conv=>whnf
       intro fp55
       conv=>whnf
       intro fp56
       conv=>whnf
       intro fp57
       conv=>whnf
       intro fp58
       conv=>whnf
       intro fp59
       conv=>whnf
       intro fp60
       conv=>whnf
       refine ⟨trivial,?_⟩
    all_goals
     conv=>whnf
     refine ⟨_,hb24,?_⟩
     conv=>whnf
     refine Zzx ?_
     refine ZuI h (fun h=>?_) (fun h=>?_)
     conv=>whnf
     refine Zs3 ?_
     refine ZsV h (fun h=>?_) (fun h=>?_)
     conv=>whnf
     refine ⟨_,hb48,?_⟩
     conv=>whnf
     refine ZsV h (fun h=>?_) (fun h=>?_)
     conv=>whnf
     cases h
     exact hK
     conv=>whnf
     refine Zs3 ?_
     refine ZsV h (fun h=>?_) (fun h=>?_)
     conv=>whnf
     cases h
     exact hK
     conv=>whnf
     cases h
     exact hK
     conv=>whnf
     cases h
     exact hK
     conv=>whnf
     cases h
     exact hK
   conv=>whnf
   cases h
   exact hK
   conv=>whnf
   cases h
   exact hK
   conv=>whnf
   cases h
   exact hK
   conv=>whnf
   cases h
   exact hK
   conv=>whnf
   cases h
   exact hK
   conv=>whnf
   cases h
   exact hK
   conv=>whnf
   cases h
   exact hK
end Go.Proofs.YthkhedimjmkifaaGreatDoor
