/-
  The functions keep their contracts, if what they call does. Printed by program.
-/
import Derived.Test.YthkhedimjmkifaaGreatDoorM
import Derived.KernelRfl
namespace Go.Proofs.YthkhedimjmkifaaGreatDoor
open Go Go.Sx
set_option maxRecDepth 100000
set_option maxHeartbeats 3200000
set_option linter.unusedVariables false
set_option linter.unusedSimpArgs false
structure Ws2:Prop where
 w233:Sq 229 c171→Sq 266 c228→Sq 270 c233
 w192:Sq 250 ZDu→Sq 182 ZEp
 w165:Sq 344 c164→Sq 347 ZCV
 w157:Sq 357 c138→Sq 358 ZAY→Sq 359 c154→Sq 360 c156→Sq 346 ZE6→Sq 245 c131→Sq 343 c157
 w156:Sq 346 ZE6→Sq 245 c131→Sq 360 c156
 w189:Sq 249 ZEx
 w176:Sq 264 ZEZ→Sq 245 c131→Sq 289 c175→Sq 241 ZEE
 w241:Sq 230 ZDz→Sq 159 ZCL→Sq 196 ZEr
 w262:Sq 39 ZE3→Sq 40 ZzO→Sq 11 ZEk
 w205:Sq 296 ZEi→Sq 255 ZEC
 w239:Sq 125 c236→Sq 126 ZCF→Sq 127 ZD7→Sq 128 ZC4→Sq 60 ZEg
 w148:Sq 369 c146→Sq 370 ZDx→Sq 368 c148
 w227:Sq 300 c226→Sq 265 c227
 w145:Sq 180 c139→Sq 245 c131→Sq 247 c143→Sq 259 ZDE→Sq 378 c145
 w197:Sq 245 c131→Sq 293 ZA5→Sq 294 c196→Sq 251 ZFh
 w132:Sq 245 c131→Sq 302 Zkp→Sq 303 ZfL→Sq 267 ZzY
 w194:Sq 183 c194
 w199:Sq 254 ZDF
 w171:Sq 229 c171
 w193:Sq 159 ZCL→Sq 179 ZBT→Sq 180 c139→Sq 181 ZDW→Sq 182 ZEp→Sq 98 c193
 w269:Sq 101 ZE9→Sq 86 ZEa→Sq 155 ZEV→Sq 88 ZDQ→Sq 87 ZDy→Sq 82 ZEt
 w208:Sq 187 ZCJ→Sq 245 c131→Sq 255 ZEC→Sq 256 ZE8→Sq 188 c208
 w200:Sq 254 ZDF→Sq 245 c131→Sq 187 ZCJ
 w218:Sq 183 c194→Sq 184 c198→Sq 185 c203→Sq 188 c208→Sq 189 c213→Sq 192 ZEF→Sq 99 c218
 w131:Sq 245 c131
 w276:Sq 338 ZB1→Sq 313 ZDs
 w279:Sq 212 ZFd→Sq 129 ZCH
 w290:Sq 133 ZCM
 w297:Sq 136 ZPZ
 w300:Sq 89 ZES→Sq 33 ZP1
 w296:Sq 135 ZPY→Sq 66 ZPA
 w293:Sq 215 ZPX→Sq 134 ZPv
 w273:Sq 166 ZEG
 w272:Sq 312 ZE0→Sq 278 ZD0
 w302:Sq 19 ZEh→Sq 20 ZPH→Sq 41 ZP2→Sq 12 ZPw
 w292:Sq 215 ZPX
 w336:Sq 147 ZQn
 w329:Sq 142 ZP3→Sq 150 ZPL→Sq 219 ZPx
 w324:Sq 150 ZPL
 w323:Sq 142 ZP3→Sq 281 ZQi
 w339:Sq 146 ZPF→Sq 147 ZQn→Sq 148 ZPG→Sq 149 ZPO→Sq 77 ZQo
 w333:Sq 150 ZPL→Sq 145 ZPN
 w313:Sq 138 ZP6→Sq 139 ZP7→Sq 140 ZP8→Sq 69 ZP9
 w309:Sq 137 ZP4→Sq 68 ZP5
 w312:Sq 142 ZP3→Sq 140 ZP8
 w322:Sq 21 ZQb→Sq 22 ZQf→Sq 75 ZQg→Sq 23 ZQh
 w314:Sq 141 ZPI→Sq 70 ZQa
 w6:Sq 308 c5→Sq 274 c6
 w7:Sq 273 c1→Sq 274 c6→Sq 156 c2→Sq 197 c7
 w20:Sq 106 c19→Sq 45 c20
 w25:Sq 108 c24→Sq 48 c25
 w28:Sq 29 c27→Sq 35 c28
 w13:Sq 199 c13
 w26:Sq 45 c20→Sq 46 c21→Sq 47 c23→Sq 48 c25→Sq 14 c26
 w37:Sq 276 c31→Sq 277 c36→Sq 157 c32→Sq 202 c37
 w49:Sq 118 c49
 w60:Sq 31 c59→Sq 38 c60
 w41:Sq 203 c40→Sq 115 c41
 w39:Sq 114 c38→Sq 52 c39
 w51:Sq 205 c51
 w33:Sq 157 c32→Sq 354 c33
 w47:Sq 84 c46→Sq 54 c47
 w248:Sq 209 ZBV
 w249:Sq 210 ZDC
 w160:Sq 361 c159→Sq 344 c160
 w213:Sq 257 c212→Sq 189 c213
 w226:Sq 301 ZDj→Sq 300 c226
 w174:Sq 290 c173→Sq 326 ZDp
 w134:Sq 306 ZCS
 w91:Sq 91 c79→Sq 92 c83→Sq 93 c85→Sq 94 c76→Sq 95 c88→Sq 96 c90→Sq 36 c91
 w66:Sq 376 c65→Sq 172 c63→Sq 366 c66
 w98:Sq 339 c97→Sq 318 c98
 w343:Sq 9 ZDw→Sq 79 c124→Sq 81 ZBK→Sq 80 ZAv→Sq 27 ZPQ
 w111:Sq 200 ZEI→Sq 111 ZFb
 w64:Sq 237 c62→Sq 172 c63→Sq 320 c64
 w73:Sq 172 c63→Sq 235 c73
 w117:Sq 286 c117
 w118:Sq 169 c77→Sq 228 ZBv
 w92:Sq 283 c92
 w95:Sq 316 c95
 w116:Sq 227 c116
 w123:Sq 94 c76→Sq 169 c77→Sq 226 ZAy→Sq 113 ZA2→Sq 153 ZDN
 w115:Sq 94 c76→Sq 169 c77→Sq 226 ZAy
 w101:Sq 94 c76→Sq 315 c94→Sq 316 c95→Sq 237 c62→Sq 317 c96→Sq 318 c98→Sq 319 ZDO→Sq 169 c77→Sq 168 c78→Sq 285 ZC2
 w86:Sq 94 c76→Sq 238 c86
 w105:Sq 110 c105
 w104:Sq 109 ZDX
set_option maxHeartbeats 100000000 in
theorem ws2:Ws2:=by
 refine ⟨(fun q0 q1=>Zf Zq (Zd q0 (Zd q1 Zk)) mixed {draws:=[(6,[0,1,3,0,8,31,63,127,255,511,1023,2047,4095,8191,1023,32767,65535,131071,262143,524287,1048575,2097151,262143,8388607,16777215,33554431,67108863,134217727,67108863,536870911,1073741823,67108863,2214592511,8589934591,17179869183],.op 0 (.op 1 (.op 2 (.op 3 (.op 4 (.op 5 (.op 6 (.alt 7 (.op 8 (.op 9 (.op 10 (.op 11 (.op 12 (.op 13 (.op 14 (.op 15 (.op 16 (.op 17 (.op 18 (.op 19 (.op 20 (.op 21 (.op 22 (.op 23 (.op 24 (.op 25 (.op 26 (.op 27 (.op 28 (.op 29 (.op 30 (.op 31 (.op 32 (.op 33 (.op 34 (.done)))))))))))))))))))))))))))) (.done)))))))))]} Tryz.func270 (hvc:=?_)),
 (fun q0=>Zf Zq (Zd q0 Zk) mixed {loops:=[(0,[.reg 6 (.own (.ol 2 (.flat Iq))),.reg 19 (.dat Iq)])]} Tryz.func182 (hvc:=?_)),
 (fun q0=>Zf Zq (Zd q0 Zk) mixed {} Tryz.func347 (hvc:=?_)),
 (fun q4 q3 q2 q0 q1 q5=>Zf Zq (Zd q4 (Zd q3 (Zd q2 (Zd q0 (Zd q1 (Zd q5 Zk)))))) mixed {draws:=[(2,[0,1,3,7,15,31,63,127,255,511,1023,2047,4095,8191,16383,32767,65535,32767,163839,524287,1048575,2097151,4194303,8388607,16777215,33554431,67108863,134217727,134217727,402653183,1073741823,2147483647,4294967295,8589934591,17179869183,8589934591,42949672959,137438953471,274877906943,549755813887],.op 0 (.op 1 (.op 2 (.op 3 (.op 4 (.op 5 (.op 6 (.op 7 (.op 8 (.op 9 (.op 10 (.op 11 (.alt 12 (.op 13 (.op 14 (.op 15 (.op 16 (.op 17 (.alt 18 (.op 19 (.op 20 (.op 21 (.op 22 (.op 23 (.op 24 (.op 25 (.op 26 (.op 27 (.op 28 (.op 29 (.alt 30 (.op 31 (.op 32 (.op 33 (.op 34 (.op 35 (.op 36 (.op 37 (.op 38 (.op 39 (.done)))))))))) (.done))))))))))))) (.done))))))) (.done)))))))))))))),(3,[0,1,3,7,15,31,63,127,255,511,1023,2047,4095,2047,10239,32767,65535,131071,262143,262143,786431,2097151,4194303,8388607],.op 0 (.op 1 (.alt 2 (.op 3 (.op 4 (.op 5 (.op 6 (.alt 7 (.op 8 (.op 9 (.op 10 (.op 11 (.op 12 (.op 13 (.alt 14 (.op 15 (.op 16 (.op 17 (.op 18 (.op 19 (.op 20 (.alt 21 (.op 22 (.op 23 (.done))) (.done)))))))) (.done)))))))) (.done)))))) (.done))))]} Tryz.func343 (hvc:=?_)),
 (fun q0 q1=>Zf Zq (Zd q0 (Zd q1 Zk)) mixed {} Tryz.func360 (hvc:=?_)),
 (Zf Zq Zk mixed {draws:=[(3,[0,1,0,4,0,16,60,124,252,511,1023,2047,0,4096,16383,32767,65535,131071],.op 0 (.op 1 (.op 2 (.op 3 (.op 4 (.op 5 (.op 6 (.op 7 (.op 8 (.op 9 (.op 10 (.op 11 (.op 12 (.op 13 (.op 14 (.op 15 (.op 16 (.op 17 (.done)))))))))))))))))))]} Tryz.func249 (hvc:=?_)),
 (fun q1 q2 q0=>Zf Zq (Zd q1 (Zd q2 (Zd q0 Zk))) mixed {draws:=[(1,[0,1,0,4,12,28,63,127,255,511,1023,255,2303,255,8447,30975,63743,129279,260351,524287,1048575,2097151,4194303,8388607,4194303,33554431,67108863,134217727,268435455],.op 0 (.op 1 (.op 2 (.op 3 (.alt 4 (.op 5 (.alt 6 (.op 7 (.op 8 (.op 9 (.op 10 (.op 11 (.op 12 (.op 13 (.op 14 (.op 15 (.op 16 (.op 17 (.op 18 (.op 19 (.op 20 (.op 21 (.op 22 (.op 23 (.op 24 (.alt 25 (.op 26 (.op 27 (.op 28 (.done)))) (.done)))))))))))))))))))) (.done))) (.done))))))]} Tryz.func241 (hvc:=?_)),
 (fun q0 q1=>Zf Zq (Zd q0 (Zd q1 Zk)) mixed {loops:=[(0,[.reg 5 (.own (.ol 2 (.flat Iq))),.reg 19 (.dat Iq)])]} Tryz.func196 (hvc:=?_)),
 (fun q0 q1=>Zf Zq (Zd q0 (Zd q1 Zk)) mixed {} Tryz.func11 (hvc:=?_)),
 (fun q0=>Zf Zq (Zd q0 Zk) mixed {} Tryz.func255 (hvc:=?_)),
 (fun q2 q0 q1 q3=>Zf Xa (Zd q2 (Zd q0 (Zd q1 (Zd q3 Zk)))) mixed {loops:=[(0,[.reg 22 (.dat Iq),.cello 1003 3 (.ol 155 (ZaM))])],draws:=[(1,[0,1,3,0,8,31,0,64,255,0,512,2047,4095,0,16383],.op 0 (.op 1 (.op 3 (.op 4 (.op 6 (.op 7 (.op 9 (.op 10 (.alt 2 (.alt 5 (.alt 8 (.alt 11 (.op 12 (.alt 13 (.alt 14 (.done) (.done)) (.done))) (.alt 13 (.alt 11 (.op 12 (.alt 14 (.done) (.done))) (.done)) (.done))) (.alt 13 (.alt 8 (.alt 11 (.op 12 (.alt 14 (.done) (.done))) (.done)) (.done)) (.done))) (.alt 13 (.alt 5 (.alt 8 (.alt 11 (.op 12 (.alt 14 (.done) (.done))) (.done)) (.done)) (.done)) (.done))) (.alt 13 (.alt 2 (.alt 5 (.alt 8 (.alt 11 (.op 12 (.alt 14 (.done) (.done))) (.done)) (.done)) (.done)) (.done)) (.done))))))))))),(5,[0,1,0,4,0,16,0,64,192,0,512,1984,0,4096,16320,32764,65532,131071,262143,524287],.op 0 (.op 1 (.op 2 (.op 3 (.op 4 (.op 5 (.op 6 (.op 7 (.op 9 (.op 10 (.op 12 (.op 13 (.alt 8 (.alt 11 (.alt 14 (.op 15 (.alt 16 (.alt 17 (.op 18 (.alt 19 (.done) (.done))) (.done)) (.done))) (.done)) (.done)) (.done))))))))))))))]} Tryz.func60 (hvc:=?_)),
 (fun q1 q0=>Zf Zq (Zd q1 (Zd q0 Zk)) mixed {} Tryz.func368 (hvc:=?_)),
 (fun q0=>Zf Zq (Zd q0 Zk) mixed {} Tryz.func265 (hvc:=?_)),
 (fun q0 q3 q2 q1=>Zf Zq (Zd q0 (Zd q3 (Zd q2 (Zd q1 Zk)))) mixed {} Tryz.func378 (hvc:=?_)),
 (fun q1 q0 q2=>Zf Zq (Zd q1 (Zd q0 (Zd q2 Zk))) mixed {} Tryz.func251 (hvc:=?_)),
 (fun q2 q1 q0=>Zf Zq (Zd q2 (Zd q1 (Zd q0 Zk))) mixed {} Tryz.func267 (hvc:=?_)),
 (Zf Zq Zk mixed {} Tryz.func183 (hvc:=?_)),
 (Zf Zq Zk mixed {} Tryz.func254 (hvc:=?_)),
 (Zf Zq Zk mixed {} Tryz.func229 (hvc:=?_)),
 (fun q3 q1 q4 q2 q0=>Zf Xa (Zd q3 (Zd q1 (Zd q4 (Zd q2 (Zd q0 Zk))))) mixed {loops:=[(0,[.reg 4 (.dat Iq),.reg 25 (.dat Iq),.cello 1020 6 (.ol 257 (.flat (Zpw)))]),(2,[.reg 60 (.dat Iq),.ent 4 (nat_lit 2) (.flat Zvn.ety),.ent 5 (nat_lit 79) (Dp.ol (2:Go.TypeId) (Dp.flat (Ty.int IntKind.i64)))]),(4,[.reg 88 (.dat Iq),.cello 1020 7 (.ol 2 (.flat Iq)),.cello 1020 8 (.ol 79 (.ol 2 (.flat Iq))),.cello 1020 6 (.ol (nat_lit 257) (.flat Zpw)),.ent 5 (nat_lit 79) (Dp.ol (2:Go.TypeId) (Dp.flat (Ty.int IntKind.i64)))]),(6,[.reg 122 (.dat Iq),.cello 1020 6 (.ol (nat_lit 257) (.flat Zpw))]),(8,[.reg 127 (.dat Iq),.cello 1020 6 (.ol (nat_lit 257) (.flat Zpw))])],draws:=[(1,[0,0,2,6,15,31,63],.op 0 (.op 1 (.op 2 (.alt 3 (.op 4 (.alt 5 (.op 6 (.done)) (.done))) (.done))))),(6,[0,0,2,6,14,0,0,0,224,510,1023,2047,4095],.op 0 (.op 1 (.op 2 (.op 3 (.op 4 (.op 5 (.op 6 (.op 7 (.alt 8 (.alt 9 (.op 10 (.op 11 (.alt 12 (.done) (.done)))) (.done)) (.done)))))))))),(16,[0,0,2,0,0,16,56,120,0,256,1016,2047,4095],.op 0 (.op 1 (.op 3 (.op 4 (.op 5 (.op 6 (.op 7 (.op 8 (.ld 2 (.alt 9 (.alt 10 (.op 11 (.alt 12 (.done) (.done))) (.done)) (.done))))))))))),(21,[0,0,2,6,14,0,0,96,224,480,992,2046,4095,8191,16383],.op 0 (.op 1 (.op 2 (.op 3 (.op 4 (.op 5 (.op 6 (.alt 7 (.op 8 (.op 9 (.alt 10 (.alt 11 (.op 12 (.op 13 (.alt 14 (.done) (.done)))) (.done)) (.done)))) (.done))))))))),(22,[0,0,2,6,14,0,0,96,224,510,1023,2047,4095],.op 0 (.op 1 (.op 2 (.op 3 (.op 4 (.op 5 (.op 6 (.alt 7 (.alt 8 (.alt 9 (.op 10 (.op 11 (.alt 12 (.done) (.done)))) (.done)) (.done)) (.done))))))))),(29,[0,0,2,6,14,0,0,96,224,480,0,2016,0,4096,0,28672,0,131040,262112,524286,1048575,2097151,4194303],.op 0 (.op 1 (.op 2 (.op 3 (.op 4 (.op 5 (.op 6 (.op 7 (.op 8 (.op 9 (.op 10 (.op 11 (.op 12 (.op 13 (.op 14 (.op 15 (.op 16 (.op 17 (.alt 18 (.alt 19 (.op 20 (.op 21 (.alt 22 (.done) (.done)))) (.done)) (.done))))))))))))))))))))]} Tryz.func98 (hvc:=?_)),
 (fun q0 q2 q3 q1 q4=>Zf Xa (Zd q0 (Zd q2 (Zd q3 (Zd q1 (Zd q4 Zk))))) mixed {draws:=[(3,[0,0,2,7,0,0,32,111,0,0,512,2031,0,8175,16367,32767,65535,131071],.op 0 (.op 1 (.op 2 (.op 5 (.op 8 (.op 9 (.op 10 (.op 12 (.alt 3 (.alt 4 (.alt 6 (.alt 7 (.alt 11 (.alt 13 (.alt 14 (.alt 15 (.op 16 (.op 17 (.done))) (.done)) (.done)) (.done)) (.done)) (.done)) (.done)) (.alt 6 (.alt 4 (.alt 7 (.alt 11 (.alt 13 (.alt 14 (.alt 15 (.op 16 (.op 17 (.done))) (.done)) (.done)) (.done)) (.done)) (.done)) (.alt 7 (.alt 4 (.alt 11 (.alt 13 (.alt 14 (.alt 15 (.op 16 (.op 17 (.done))) (.done)) (.done)) (.done)) (.done)) (.alt 11 (.alt 4 (.alt 13 (.alt 14 (.alt 15 (.op 16 (.op 17 (.done))) (.done)) (.done)) (.done)) (.alt 13 (.alt 4 (.alt 14 (.alt 15 (.op 16 (.op 17 (.done))) (.done)) (.done)) (.alt 14 (.alt 4 (.alt 15 (.op 16 (.op 17 (.done))) (.done)) (.done)) (.done))) (.done))) (.done))) (.done))) (.done))) (.alt 4 (.alt 3 (.alt 6 (.alt 7 (.alt 11 (.alt 13 (.alt 14 (.alt 15 (.op 16 (.op 17 (.done))) (.done)) (.done)) (.done)) (.done)) (.done)) (.done)) (.alt 6 (.alt 3 (.alt 7 (.alt 11 (.alt 13 (.alt 14 (.alt 15 (.op 16 (.op 17 (.done))) (.done)) (.done)) (.done)) (.done)) (.done)) (.done)) (.done))) (.alt 6 (.alt 3 (.alt 4 (.alt 7 (.alt 11 (.alt 13 (.alt 14 (.alt 15 (.op 16 (.op 17 (.done))) (.done)) (.done)) (.done)) (.done)) (.done)) (.alt 7 (.alt 4 (.alt 11 (.alt 13 (.alt 14 (.alt 15 (.op 16 (.op 17 (.done))) (.done)) (.done)) (.done)) (.done)) (.alt 11 (.alt 4 (.alt 13 (.alt 14 (.alt 15 (.op 16 (.op 17 (.done))) (.done)) (.done)) (.done)) (.alt 13 (.alt 4 (.alt 14 (.alt 15 (.op 16 (.op 17 (.done))) (.done)) (.done)) (.alt 14 (.alt 4 (.alt 15 (.op 16 (.op 17 (.done))) (.done)) (.done)) (.done))) (.done))) (.done))) (.done))) (.alt 4 (.alt 3 (.alt 7 (.alt 11 (.alt 13 (.alt 14 (.alt 15 (.op 16 (.op 17 (.done))) (.done)) (.done)) (.done)) (.done)) (.done)) (.done)) (.done))) (.done))))))))))))]} Tryz.func82 (hvc:=?_)),
 (fun q0 q2 q3 q1=>Zf Zq (Zd q0 (Zd q2 (Zd q3 (Zd q1 Zk)))) mixed {loops:=[(0,[.reg 13 (.dat Iq)])],draws:=[(4,[0,0,2,7,15,31,63,127,255,511,63,1087,4095,8191,16383,32767,65535,131071,262143,524287,1048575,2097151,262143,4456447,16777215,33554431,67108863,262143,268435455,536870911,1073741823,2147483647,4294967295,8589934591,17179869183,17179869183,51539607551,137438953471,274877906943,549755813887,17179869183,1116691496959,4398046511103,8796093022207,17592186044415],.op 0 (.op 1 (.op 2 (.alt 3 (.op 4 (.op 5 (.op 6 (.op 7 (.op 8 (.op 9 (.op 10 (.op 11 (.op 12 (.op 13 (.op 14 (.op 15 (.op 16 (.op 17 (.op 18 (.op 19 (.op 20 (.op 21 (.op 22 (.op 23 (.op 24 (.op 25 (.op 26 (.op 27 (.op 28 (.op 29 (.op 30 (.op 31 (.op 32 (.op 33 (.op 34 (.op 35 (.op 36 (.op 37 (.op 38 (.op 39 (.op 40 (.op 41 (.op 42 (.op 43 (.op 44 (.done)))))))))))))))))))))))))))))))))))))))))) (.done)))))]} Tryz.func188 (hvc:=?_)),
 (fun q0 q1=>Zf Zq (Zd q0 (Zd q1 Zk)) mixed {} Tryz.func187 (hvc:=?_)),
 (fun q2 q5 q1 q3 q0 q4=>Zf Zq (Zd q2 (Zd q5 (Zd q1 (Zd q3 (Zd q0 (Zd q4 Zk)))))) mixed {} Tryz.func99 (hvc:=?_)),
 (Zf Zq Zk mixed {} Tryz.func245 (hvc:=?_)),
 (fun q0=>Zf Zq (Zd q0 Zk) mixed {} Tryz.func313 (hvc:=?_)),
 (fun q0=>Zf Zq (Zd q0 Zk) mixed {loops:=[(0,[.reg 5 (.dat Iq)])],draws:=[(6,[0,0,3,7,0,0,48,112,255,511],.op 0 (.op 1 (.op 2 (.op 3 (.op 4 (.op 5 (.op 6 (.op 7 (.alt 8 (.op 9 (.done)) (.done))))))))))]} Tryz.func129 (hvc:=?_)),
 (Zf Zq Zk mixed {} Tryz.func133 (hvc:=?_)),
 (Zf Zq Zk mixed {} Tryz.func136 (hvc:=?_)),
 (fun q0=>Zf Zq (Zd q0 Zk) mixed {} Tryz.func33 (hvc:=?_)),
 (fun q0=>Zf Zq (Zd q0 Zk) mixed {loops:=[(0,[.reg 5 (.dat Iq)])],draws:=[(6,[0,0,3,7,0,0,48,112,255,511],.op 0 (.op 1 (.op 2 (.op 3 (.op 4 (.op 5 (.op 6 (.op 7 (.alt 8 (.op 9 (.done)) (.done))))))))))]} Tryz.func66 (hvc:=?_)),
 (fun q0=>Zf Zq (Zd q0 Zk) mixed {} Tryz.func134 (hvc:=?_)),
 (Zf Zq Zk mixed {loops:=[(0,[.reg 5 (.dat Iq)])],draws:=[(6,[0,0,3,7,0,0,48,112,255],.op 0 (.op 1 (.op 2 (.op 3 (.op 4 (.op 5 (.op 6 (.op 7 (.op 8 (.done))))))))))]} Tryz.func166 (hvc:=?_)),
 (fun q0=>Zf Zq (Zd q0 Zk) mixed {loops:=[(0,[.reg 5 (.dat Iq)])],draws:=[(6,[0,0,3,7,0,0,48,112,255,511],.op 0 (.op 1 (.op 2 (.op 3 (.op 4 (.op 5 (.op 6 (.op 7 (.alt 8 (.op 9 (.done)) (.done))))))))))]} Tryz.func278 (hvc:=?_)),
 (fun q0 q1 q2=>Zf Zq (Zd q0 (Zd q1 (Zd q2 Zk))) mixed {} Tryz.func12 (hvc:=?_)),
 (Zf Zq Zk mixed {} Tryz.func215 (hvc:=?_)),
 (Zf Zq Zk mixed {loops:=[(0,[.reg 1 (.dat Iq),.reg 5 (.dat Iq)])]} Tryz.func147 (hvc:=?_)),
 (fun q1 q0=>Zf Zq (Zd q1 (Zd q0 Zk)) mixed {loops:=[(0,[.reg 1 (.dat Iq),.reg 5 (.dat Iq)])],draws:=[(4,[0,0,3,7,15,0,32,127],.op 0 (.op 1 (.op 2 (.op 3 (.op 4 (.op 5 (.alt 6 (.op 7 (.done)) (.done))))))))]} Tryz.func219 (hvc:=?_)),
 (Zf Zq Zk mixed {loops:=[(0,[.reg 1 (.dat Iq),.reg 5 (.dat Iq)])]} Tryz.func150 (hvc:=?_)),
 (fun q0=>Zf Zq (Zd q0 Zk) mixed {loops:=[(0,[.reg 1 (.dat Iq),.reg 5 (.dat Iq)])],draws:=[(4,[0,0,3,7,15,0,32,127],.op 0 (.op 1 (.op 2 (.op 3 (.op 4 (.op 5 (.alt 6 (.op 7 (.done)) (.done))))))))]} Tryz.func281 (hvc:=?_)),
 (fun q3 q1 q0 q2=>Zf Zq (Zd q3 (Zd q1 (Zd q0 (Zd q2 Zk)))) mixed {} Tryz.func77 (hvc:=?_)),
 (fun q0=>Zf Zq (Zd q0 Zk) mixed {loops:=[(0,[.reg 1 (.dat Iq),.reg 5 (.dat Iq)])]} Tryz.func145 (hvc:=?_)),
 (fun q0 q1 q2=>Zf Xa (Zd q0 (Zd q1 (Zd q2 Zk))) mixed {} Tryz.func69 (hvc:=?_)),
 (fun q0=>Zf Xa (Zd q0 Zk) mixed {} Tryz.func68 (hvc:=?_)),
 (fun q0=>Zf Xa (Zd q0 Zk) mixed {loops:=[(0,[.reg 1 (.dat Iq),.reg 5 (.dat Iq),.ent 0 (nat_lit 246) (.flat Zcd)])]} Tryz.func140 (hvc:=?_)),
 (fun q0 q1 q2=>Zf Xa (Zd q0 (Zd q1 (Zd q2 Zk))) mixed {} Tryz.func23 (hvc:=?_)),
 (fun q0=>Zf Xa (Zd q0 Zk) mixed {loops:=[(0,[.reg 1 (.dat Iq),.reg 5 (.dat Iq),.ent 0 (nat_lit 86) (Dp.pair (Dp.ol (2:Go.TypeId) (Dp.flat (Ty.int IntKind.i64))) (Dp.pair (Dp.ol (2:Go.TypeId) (Dp.flat (Ty.int IntKind.i64))) (Dp.pair (Dp.ol (2:Go.TypeId) (Dp.flat (Ty.int IntKind.i64))) (Dp.pair (Dp.ol (2:Go.TypeId) (Dp.flat (Ty.int IntKind.i64))) (Dp.flat Ty.unit)))))])]} Tryz.func70 (hvc:=?_)),
 (fun q0=>Zf Zq (Zd q0 Zk) mixed {loops:=[(0,[.reg 1 (.dat Iq),.reg 5 (.dat Iq)])]} Tryz.func274 (hvc:=?_)),
 (fun q1 q2 q0=>Zf Zq (Zd q1 (Zd q2 (Zd q0 Zk))) mixed {} Tryz.func197 (hvc:=?_)),
 (fun q0=>Zf Zq (Zd q0 Zk) mixed {loops:=[(0,[.reg 1 (.dat Iq),.reg 5 (.dat Iq)])]} Tryz.func45 (hvc:=?_)),
 (fun q0=>Zf Zq (Zd q0 Zk) mixed {loops:=[(0,[.reg 1 (.dat Iq),.reg 5 (.dat Iq)])]} Tryz.func48 (hvc:=?_)),
 (fun q0=>Zf Zq (Zd q0 Zk) mixed {loops:=[(0,[.reg 1 (.dat Iq),.reg 5 (.dat Iq)])]} Tryz.func35 (hvc:=?_)),
 (Zf Zq Zk mixed {} Tryz.func199 (hvc:=?_)),
 (fun q3 q1 q0 q2=>Zf Zq (Zd q3 (Zd q1 (Zd q0 (Zd q2 Zk)))) mixed {} Tryz.func14 (hvc:=?_)),
 (fun q1 q2 q0=>Zf Xa (Zd q1 (Zd q2 (Zd q0 Zk))) mixed {} Tryz.func202 (hvc:=?_)),
 (Zf Zq Zk mixed {} Tryz.func118 (hvc:=?_)),
 (fun q0=>Zf Xa (Zd q0 Zk) mixed {loops:=[(0,[.reg 4 (.dat Iq),.ent 0 (nat_lit 88) Zo8])]} Tryz.func38 (hvc:=?_)),
 (fun q0=>Zf Xa (Zd q0 Zk) mixed {loops:=[(0,[.reg 4 (.dat Iq),.ent 0 (nat_lit 219) Zb9])]} Tryz.func115 (hvc:=?_)),
 (fun q0=>Zf Xa (Zd q0 Zk) mixed {} Tryz.func52 (hvc:=?_)),
 (Zf Zq Zk mixed {} Tryz.func205 (hvc:=?_)),
 (fun q0=>Zf Zq (Zd q0 Zk) mixed {} Tryz.func354 (hvc:=?_)),
 (fun q0=>Zf Xa (Zd q0 Zk) mixed {loops:=[(0,[.reg 4 (.dat Iq),.ent 0 (nat_lit 86) Zl3])]} Tryz.func54 (hvc:=?_)),
 (Zf Zq Zk mixed {} Tryz.func209 (hvc:=?_)),
 (Zf Zq Zk mixed {} Tryz.func210 (hvc:=?_)),
 (fun q0=>Zf Zq (Zd q0 Zk) mixed {} Tryz.func344 (hvc:=?_)),
 (fun q0=>Zf Zq (Zd q0 Zk) mixed {} Tryz.func189 (hvc:=?_)),
 (fun q0=>Zf Zq (Zd q0 Zk) mixed {loops:=[(0,[.reg 17 (.dat Iq)])]} Tryz.func300 (hvc:=?_)),
 (fun q0=>Zf Zq (Zd q0 Zk) mixed {loops:=[(0,[.reg 8 (.dat Iq)])]} Tryz.func326 (hvc:=?_)),
 (Zf Zq Zk mixed {loops:=[(0,[.reg 8 (.dat Iq)])]} Tryz.func306 (hvc:=?_)),
 (fun q5 q4 q2 q3 q1 q0=>Zf Zq (Zd q5 (Zd q4 (Zd q2 (Zd q3 (Zd q1 (Zd q0 Zk)))))) mixed {loops:=[(0,[.reg 5 (.dat Iq)]),(2,[.reg 6 (.dat Iq)])],draws:=[(6,[0,1,0,7,15,31,0,64,192,448,1023],.op 0 (.op 1 (.op 2 (.op 3 (.op 4 (.op 5 (.op 6 (.op 7 (.alt 8 (.op 9 (.op 10 (.done))) (.done)))))))))),(11,[0,0,2,0,14,30,63,127],.op 0 (.op 1 (.op 2 (.op 3 (.op 4 (.op 5 (.alt 6 (.op 7 (.done)) (.done))))))))]} Tryz.func36 (hvc:=?_)),
 (fun q0 q1=>Zf Zq (Zd q0 (Zd q1 Zk)) mixed {loops:=[(0,[.reg 3 (.dat Iq)])]} Tryz.func366 (hvc:=?_)),
 (fun q0=>Zf Zq (Zd q0 Zk) mixed {} Tryz.func318 (hvc:=?_)),
 (fun q0 q2 q1 q3=>Zf Zq (Zd q0 (Zd q2 (Zd q1 (Zd q3 Zk)))) mixed {draws:=[(5,[0,1,0,4,0,16,48,112,255,511,1023,1023,1023,1023,0,0,0,116735,249855,516095,1048575],.op 0 (.op 1 (.op 2 (.op 3 (.op 4 (.op 5 (.op 6 (.op 7 (.alt 8 (.op 9 (.op 10 (.op 11 (.op 12 (.op 13 (.alt 14 (.alt 15 (.alt 16 (.alt 17 (.alt 18 (.alt 19 (.op 20 (.done)) (.done)) (.done)) (.done)) (.done)) (.alt 16 (.alt 15 (.alt 17 (.alt 18 (.alt 19 (.op 20 (.done)) (.done)) (.done)) (.done)) (.done)) (.done))) (.alt 15 (.alt 14 (.alt 16 (.alt 17 (.alt 18 (.alt 19 (.op 20 (.done)) (.done)) (.done)) (.done)) (.done)) (.alt 16 (.alt 14 (.alt 17 (.alt 18 (.alt 19 (.op 20 (.done)) (.done)) (.done)) (.done)) (.done)) (.done))) (.alt 16 (.alt 14 (.alt 15 (.alt 17 (.alt 18 (.alt 19 (.op 20 (.done)) (.done)) (.done)) (.done)) (.done)) (.alt 15 (.alt 14 (.alt 17 (.alt 18 (.alt 19 (.op 20 (.done)) (.done)) (.done)) (.done)) (.done)) (.done))) (.done))))))))) (.alt 14 (.alt 8 (.op 9 (.op 10 (.op 11 (.op 12 (.op 13 (.alt 15 (.alt 16 (.alt 17 (.alt 18 (.alt 19 (.op 20 (.done)) (.done)) (.done)) (.done)) (.done)) (.alt 16 (.alt 15 (.alt 17 (.alt 18 (.alt 19 (.op 20 (.done)) (.done)) (.done)) (.done)) (.done)) (.done)))))))) (.alt 15 (.alt 8 (.op 9 (.op 10 (.op 11 (.op 12 (.op 13 (.alt 16 (.alt 17 (.alt 18 (.alt 19 (.op 20 (.done)) (.done)) (.done)) (.done)) (.done))))))) (.alt 16 (.alt 8 (.op 9 (.op 10 (.op 11 (.op 12 (.op 13 (.alt 17 (.alt 18 (.alt 19 (.op 20 (.done)) (.done)) (.done)) (.done))))))) (.done)) (.done))) (.alt 16 (.alt 8 (.op 9 (.op 10 (.op 11 (.op 12 (.op 13 (.alt 15 (.alt 17 (.alt 18 (.alt 19 (.op 20 (.done)) (.done)) (.done)) (.done)) (.done))))))) (.alt 15 (.alt 8 (.op 9 (.op 10 (.op 11 (.op 12 (.op 13 (.alt 17 (.alt 18 (.alt 19 (.op 20 (.done)) (.done)) (.done)) (.done))))))) (.done)) (.done))) (.done)))) (.alt 15 (.alt 8 (.op 9 (.op 10 (.op 11 (.op 12 (.op 13 (.alt 14 (.alt 16 (.alt 17 (.alt 18 (.alt 19 (.op 20 (.done)) (.done)) (.done)) (.done)) (.done)) (.alt 16 (.alt 14 (.alt 17 (.alt 18 (.alt 19 (.op 20 (.done)) (.done)) (.done)) (.done)) (.done)) (.done)))))))) (.alt 14 (.alt 8 (.op 9 (.op 10 (.op 11 (.op 12 (.op 13 (.alt 16 (.alt 17 (.alt 18 (.alt 19 (.op 20 (.done)) (.done)) (.done)) (.done)) (.done))))))) (.alt 16 (.alt 8 (.op 9 (.op 10 (.op 11 (.op 12 (.op 13 (.alt 17 (.alt 18 (.alt 19 (.op 20 (.done)) (.done)) (.done)) (.done))))))) (.done)) (.done))) (.alt 16 (.alt 8 (.op 9 (.op 10 (.op 11 (.op 12 (.op 13 (.alt 14 (.alt 17 (.alt 18 (.alt 19 (.op 20 (.done)) (.done)) (.done)) (.done)) (.done))))))) (.alt 14 (.alt 8 (.op 9 (.op 10 (.op 11 (.op 12 (.op 13 (.alt 17 (.alt 18 (.alt 19 (.op 20 (.done)) (.done)) (.done)) (.done))))))) (.done)) (.done))) (.done)))) (.alt 16 (.alt 8 (.op 9 (.op 10 (.op 11 (.op 12 (.op 13 (.alt 14 (.alt 15 (.alt 17 (.alt 18 (.alt 19 (.op 20 (.done)) (.done)) (.done)) (.done)) (.done)) (.alt 15 (.alt 14 (.alt 17 (.alt 18 (.alt 19 (.op 20 (.done)) (.done)) (.done)) (.done)) (.done)) (.done)))))))) (.alt 14 (.alt 8 (.op 9 (.op 10 (.op 11 (.op 12 (.op 13 (.alt 15 (.alt 17 (.alt 18 (.alt 19 (.op 20 (.done)) (.done)) (.done)) (.done)) (.done))))))) (.alt 15 (.alt 8 (.op 9 (.op 10 (.op 11 (.op 12 (.op 13 (.alt 17 (.alt 18 (.alt 19 (.op 20 (.done)) (.done)) (.done)) (.done))))))) (.done)) (.done))) (.alt 15 (.alt 8 (.op 9 (.op 10 (.op 11 (.op 12 (.op 13 (.alt 14 (.alt 17 (.alt 18 (.alt 19 (.op 20 (.done)) (.done)) (.done)) (.done)) (.done))))))) (.alt 14 (.alt 8 (.op 9 (.op 10 (.op 11 (.op 12 (.op 13 (.alt 17 (.alt 18 (.alt 19 (.op 20 (.done)) (.done)) (.done)) (.done))))))) (.done)) (.done))) (.done)))) (.done))))))))))))),(6,[0,0,0,0,8,28,0,64,252,511,1023,2047],.op 0 (.op 1 (.op 2 (.op 3 (.op 4 (.op 6 (.op 7 (.alt 5 (.alt 8 (.op 9 (.alt 10 (.op 11 (.done)) (.done))) (.done)) (.done)))))))))]} Tryz.func27 (hvc:=?_)),
 (fun q0=>Zf Xa (Zd q0 Zk) mixed {loops:=[(0,[.reg 4 (.dat Iq),.cello 1003 0 (.ol 277 (Zoy))])],draws:=[(5,[0,1,0,4,0,28,60,124,252,511,1023,2047],.op 0 (.op 1 (.op 2 (.op 3 (.op 4 (.op 5 (.op 6 (.alt 7 (.alt 8 (.alt 9 (.op 10 (.alt 11 (.done) (.done))) (.done)) (.done)) (.done)))))))))]} Tryz.func111 (hvc:=?_)),
 (fun q0 q1=>Zf Zq (Zd q0 (Zd q1 Zk)) mixed {loops:=[(0,[.reg 5 (.dat Iq),.reg 6 (.dat Iq)]),(2,[.reg 8 (.dat Iq)])],draws:=[(12,[0,1,0,7,15,31,0,64,255],.op 0 (.op 1 (.op 2 (.op 3 (.op 4 (.op 5 (.op 6 (.op 7 (.op 8 (.done))))))))))]} Tryz.func320 (hvc:=?_)),
 (fun q0=>Zf Zq (Zd q0 Zk) mixed {loops:=[(0,[.reg 6 (.dat Iq)]),(2,[.reg 8 (.dat Iq)]),(4,[.reg 9 (.dat Iq)])],draws:=[(6,[0,1,0,4,12,28,63,127,255,511,1023,2047,511,4607,511,16895,61951,127487,258559,520703,1048575,2097151],.op 0 (.op 1 (.op 2 (.op 3 (.op 4 (.op 5 (.alt 6 (.op 7 (.op 8 (.op 9 (.op 10 (.op 11 (.op 12 (.op 13 (.op 14 (.op 15 (.op 16 (.op 17 (.op 18 (.op 19 (.op 20 (.op 21 (.done)))))))))))))))) (.done))))))))]} Tryz.func235 (hvc:=?_)),
 (Zf Zq Zk mixed {} Tryz.func286 (hvc:=?_)),
 (fun q0=>Zf Xa (Zd q0 Zk) mixed {loops:=[(0,[.reg 5 (.dat Iq),.ent 4 (nat_lit 86) (Dp.pair (Dp.ol (2:Go.TypeId) (Dp.flat (Ty.int IntKind.i64))) (Dp.pair (Dp.ol (2:Go.TypeId) (Dp.flat (Ty.int IntKind.i64))) (Dp.pair (Dp.ol (2:Go.TypeId) (Dp.flat (Ty.int IntKind.i64))) (Dp.pair (Dp.ol (2:Go.TypeId) (Dp.flat (Ty.int IntKind.i64))) (Dp.flat Ty.unit)))))]),(2,[.reg 6 (.own (.ol 2 (.flat Iq))),.reg 8 (.dat Iq)])]} Tryz.func228 (hvc:=?_)),
 (Zf Zq Zk mixed {} Tryz.func283 (hvc:=?_)),
 (Zf Zq Zk mixed {} Tryz.func316 (hvc:=?_)),
 (Zf Xa Zk mixed {draws:=[(3,[0,1,0,4,15,31,63,0,128,0,1023,2047],.op 0 (.op 1 (.op 2 (.op 3 (.op 4 (.op 5 (.op 6 (.op 7 (.op 8 (.op 9 (.op 10 (.alt 11 (.done) (.done)))))))))))))]} Tryz.func227 (hvc:=?_)),
 (fun q1 q2 q3 q0=>Zf Zq (Zd q1 (Zd q2 (Zd q3 (Zd q0 Zk)))) mixed {draws:=[(4,[0,1,0,4,12,0,0,64,224,480,992,2044,4092,8188,16383,32767],.op 0 (.op 1 (.op 2 (.op 3 (.op 4 (.op 5 (.op 6 (.op 7 (.op 8 (.op 9 (.op 10 (.op 11 (.op 12 (.op 13 (.op 14 (.alt 15 (.done) (.done))))))))))))))))),(14,[0,1,0,0,8,28,60,124,0,256,0,1024,3840,7936,16383,32767],.op 0 (.op 1 (.op 2 (.op 3 (.op 4 (.op 5 (.op 6 (.op 7 (.op 8 (.op 10 (.op 11 (.alt 9 (.op 12 (.op 13 (.op 14 (.alt 15 (.done) (.done))))) (.done))))))))))))),(15,[0,1,0,4,0,16,60,124,252,511,1023],.op 0 (.op 1 (.op 2 (.op 3 (.op 4 (.op 5 (.op 6 (.op 7 (.alt 8 (.op 9 (.alt 10 (.done) (.done))) (.done))))))))))]} Tryz.func153 (hvc:=?_)),
 (fun q0 q1=>Zf Zq (Zd q0 (Zd q1 Zk)) mixed {loops:=[(0,[.reg 4 (.dat Iq),.ent 2 (nat_lit 2) (.flat Zvn.ety)]),(2,[.reg 6 (.dat Iq),.ent 2 (nat_lit 2) (.flat Zvn.ety)])],draws:=[(9,[0,0,0,6,14,0,32,0,224,480,992,0,4064,8160,16383,32767],.op 0 (.op 1 (.op 2 (.op 3 (.op 4 (.op 5 (.op 6 (.op 7 (.op 8 (.op 9 (.op 10 (.op 11 (.op 12 (.op 13 (.op 14 (.alt 15 (.done) (.done)))))))))))))))))]} Tryz.func226 (hvc:=?_)),
 (fun q1 q3 q2 q6 q0 q4 q7 q5 q8=>Zf Zq (Zd q1 (Zd q3 (Zd q2 (Zd q6 (Zd q0 (Zd q4 (Zd q7 (Zd q5 (Zd q8 Zk))))))))) mixed {draws:=[(5,[0,1,3,7,15,31,63,127,255,511,1023,255,2303,6399,255,16639,63743,129279,260351,524287,1048575,255,2097407,6291711,255,16777471,65011967,132120831,268435455,536870911,1073741823],.op 0 (.op 1 (.op 2 (.op 3 (.op 4 (.op 5 (.op 6 (.op 7 (.op 8 (.op 9 (.op 10 (.op 11 (.op 12 (.op 13 (.op 14 (.op 15 (.op 16 (.op 17 (.op 18 (.op 19 (.op 20 (.op 21 (.op 22 (.op 23 (.op 24 (.op 25 (.op 26 (.op 27 (.alt 28 (.op 29 (.op 30 (.done))) (.done)))))))))))))))))))))))))))))),(11,[0,0,2,7,15,31,63,127,255,255,767,2047,4095,8191,255,16639,65535,131071,262143],.op 0 (.op 1 (.op 2 (.op 3 (.op 4 (.op 5 (.op 6 (.op 7 (.op 8 (.op 9 (.op 10 (.op 11 (.op 12 (.op 13 (.op 14 (.op 15 (.op 16 (.op 17 (.op 18 (.done)))))))))))))))))))),(12,[0,1,0,4,0,16,60,124,255,511],.op 0 (.op 1 (.op 2 (.op 3 (.op 4 (.op 5 (.alt 6 (.op 7 (.alt 8 (.op 9 (.done)) (.done))) (.done))))))))]} Tryz.func285 (hvc:=?_)),
 (fun q0=>Zf Zq (Zd q0 Zk) mixed {} Tryz.func238 (hvc:=?_)),
 (Zf Zq Zk mixed {loops:=[(0,[.reg 5 (.own (.ol 187 (.flat (Yg)))),.reg 6 (.dat Iq)])]} Tryz.func110 (hvc:=?_)),
 (Zf Zq Zk mixed {loops:=[(0,[.reg 6 (.own (.ol 2 (.flat Iq))),.reg 7 (.dat Iq)])]} Tryz.func109 (hvc:=?_))⟩
 all_goals
  intro a
  repeat rcases a with ⟨_,a⟩
  rintro K ⟨r,h,hK⟩
  repeat'
    conv=>whnf
    first
    | with_reducible refine ZvK ?_
    | with_reducible refine ZeS (by assumption) (by assumption) (by assumption) ?_
    | with_reducible refine QO (by assumption) ?_
    | with_reducible refine ZeX (by assumption) ?_
    | (with_reducible refine shD ?_);first | refine ZsV h (fun h=>?_) (fun h=>?_) | refine Zvc h (fun h=>?_) (fun h=>?_)
    | (with_reducible refine Zvw ?_);first | refine Zzx ?_ | refine Zs3 ?_
    | (with_reducible refine ZAC ?_);first | refine ZuI h (fun h=>?_) (fun h=>?_) | refine Zvv h (fun h=>?_) (fun h=>?_)
    | (with_reducible refine Zva ?_);(refine ⟨fun hd=>?_,?_⟩)<;>try subst hd
    | (with_reducible refine ZAt ?_);first | with_reducible refine Zc5 h (fun x hb h=>?_) | refine ZeX (by assumption) ?_ | with_reducible refine pG h (fun hp h=>?_) | with_reducible refine pA h (fun x ha hb hx h=>?_) | with_reducible refine pB h (fun x hb h=>?_) | refine Zc5 h (fun x hb h=>?_)
    | (with_reducible refine ZAA ?_);first | with_reducible refine vAt h (fun x ha hb hx h=>?_) | refine ZeS (by assumption) (by assumption) (by assumption) ?_ | with_reducible refine pG h (fun hp h=>?_) | with_reducible refine pA h (fun x ha hb hx h=>?_) | with_reducible refine pB h (fun x hb h=>?_) | refine vAt h (fun x ha hb hx h=>?_)
    | (with_reducible refine ZvL ?_);first | with_reducible refine Zok h (fun x hb h=>?_) | refine QO (by assumption) ?_ | with_reducible refine pG h (fun hp h=>?_) | with_reducible refine pA h (fun x ha hb hx h=>?_) | with_reducible refine pB h (fun x hb h=>?_) | refine Zok h (fun x hb h=>?_)
    | with_reducible refine ZAF ?_
    | (with_reducible refine ZqE ?_);refine ZqA h hK ?_;clear h hK;intro I μ v r h hK;(repeat rcases v with ⟨_,v⟩);(try dsimp only at h)
    | with_reducible refine ⟨by assumption,?_⟩
    | with_reducible refine orL ?_
    | with_reducible refine .inr ?_
    | (with_reducible refine ZvB ?_);first | refine ⟨?_,True.intro⟩ | refine ⟨?_,?_⟩
    | refine ⟨by kernel_rfl,?_⟩
    | refine ⟨by decide,?_⟩
    | with_reducible refine ZpS h (fun hp h=>?_)
    | intro fp
    | exact trivial
    | with_reducible exact Zvu h
    | (refine pS h (fun e=>?_));subst e;(repeat (first | exact hK | exact ⟨⟨rfl,rfl⟩,hK.1 _ rfl⟩ | (refine pR hK (fun e hK=>?_));subst e));done
    | refine ZpS h (fun hp h=>?_)
    | refine ⟨by assumption,?_⟩
    | with_reducible refine pG h (fun hp h=>?_) | with_reducible refine pA h (fun x ha hb hx h=>?_) | with_reducible refine pB h (fun x hb h=>?_)
    | refine pG h (fun hp h=>?_)
    | fail
end Go.Proofs.YthkhedimjmkifaaGreatDoor
