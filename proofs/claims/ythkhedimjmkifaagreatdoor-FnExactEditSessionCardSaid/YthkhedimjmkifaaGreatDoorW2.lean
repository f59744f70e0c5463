/-
  The functions keep their contracts, if what they call does. Printed by program.
-/
import Derived.Test.YthkhedimjmkifaaGreatDoorM
import Derived.KernelRfl
namespace Go.Proofs.YthkhedimjmkifaaGreatDoor
open Go Go.Sx
set_option maxRecDepth 100000
set_option maxHeartbeats 3200000
set_option linter.unusedVariables false
set_option linter.unusedSimpArgs false
structure Ws2:Prop where
 w185:Sq 248 ZB9→Sq 179 ZDD
 w252:Sq 122 ZDq→Sq 123 ZAL→Sq 124 ZBF→Sq 59 ZBb
 w190:Sq 181 ZEx→Sq 250 ZDW
 w189:Sq 128 ZBT→Sq 159 ZEf→Sq 231 ZC4→Sq 249 ZDG→Sq 181 ZEx
 w153:Sq 371 c152→Sq 359 ZFi
 w151:Sq 372 ZAY
 w172:Sq 242 c171→Sq 290 ZDh
 w187:Sq 159 ZEf→Sq 231 ZC4
 w258:Sq 59 ZBb→Sq 159 ZEf→Sq 160 ZCT→Sq 161 ZEB→Sq 162 ZCQ→Sq 163 ZDT→Sq 164 ZCA→Sq 124 ZBF→Sq 86 ZET
 w230:Sq 304 c229→Sq 268 ZDo
 w228:Sq 305 c228
 w214:Sq 267 c131→Sq 298 c213→Sq 260 ZCR
 w238:Sq 125 ZCD→Sq 126 c236→Sq 127 ZCF→Sq 128 ZBT→Sq 60 ZD7
 w251:Sq 128 ZBT→Sq 124 ZBF
 w213:Sq 298 c213
 w135:Sq 267 c131→Sq 295 ZCS→Sq 252 ZzS
 w136:Sq 245 c130→Sq 342 ZzY→Sq 252 ZzS→Sq 323 ZEN
 w206:Sq 255 ZEi→Sq 297 ZEC→Sq 256 c206
 w142:Sq 289 c141→Sq 247 ZEP
 w139:Sq 245 c130→Sq 292 c139
 w226:Sq 300 ZDj→Sq 265 c226
 w137:Sq 357 ZE4
 w143:Sq 259 c143
 w205:Sq 245 c130→Sq 297 ZEC
 w208:Sq 245 c130→Sq 258 c208
 w239:Sq 230 ZEg
 w132:Sq 342 ZzY
 w221:Sq 327 ZDf→Sq 299 ZEA
 w207:Sq 187 ZDF→Sq 245 c130→Sq 255 ZEi→Sq 256 c206→Sq 188 ZE8
 w200:Sq 187 ZDF→Sq 186 ZCJ
 w276:Sq 338 ZB1→Sq 313 ZDs
 w277:Sq 313 ZDs→Sq 279 ZDM
 w289:Sq 61 ZEY→Sq 62 ZDY→Sq 63 ZFc→Sq 19 ZEh
 w278:Sq 278 ZD0→Sq 279 ZDM→Sq 166 ZEG→Sq 212 ZFd
 w279:Sq 212 ZFd→Sq 129 ZCH
 w290:Sq 133 ZCM
 w291:Sq 133 ZCM→Sq 64 ZPW
 w295:Sq 166 ZEG→Sq 135 ZPY
 w282:Sq 213 ZCK→Sq 130 ZDB
 w280:Sq 129 ZCH→Sq 61 ZEY
 w284:Sq 214 ZDk
 w328:Sq 314 ZQk→Sq 282 ZQl
 w336:Sq 143 ZPD→Sq 144 ZPy→Sq 145 ZPF→Sq 76 ZQn
 w329:Sq 142 ZP3→Sq 281 ZPM→Sq 282 ZQl→Sq 150 ZQj→Sq 218 ZPx
 w342:Sq 142 ZP3→Sq 150 ZQj→Sq 78 ZPP
 w341:Sq 146 ZPG→Sq 147 ZPO→Sq 148 ZQo→Sq 149 ZQp→Sq 77 ZQq
 w332:Sq 142 ZP3→Sq 220 ZQm
 w335:Sq 150 ZQj→Sq 145 ZPF
 w307:Sq 280 ZPJ→Sq 217 ZPC
 w318:Sq 141 ZPI→Sq 73 ZQd
 w305:Sq 141 ZPI
 w322:Sq 21 ZQb→Sq 22 ZQf→Sq 75 ZQg→Sq 23 ZQh
 w320:Sq 71 ZQc→Sq 72 ZPK→Sq 73 ZQd→Sq 74 ZQe→Sq 22 ZQf
 w314:Sq 141 ZPI→Sq 70 ZQa
 w6:Sq 308 c5→Sq 274 c6
 w8:Sq 197 c7→Sq 102 c8
 w20:Sq 106 c19→Sq 45 c20
 w24:Sq 108 c24
 w22:Sq 156 c2→Sq 107 c22
 w11:Sq 198 c10→Sq 103 c11
 w13:Sq 199 c13
 w26:Sq 45 c20→Sq 46 c21→Sq 47 c23→Sq 48 c25→Sq 14 c26
 w3:Sq 156 c2→Sq 353 c3
 w35:Sq 337 c34→Sq 311 c35
 w48:Sq 52 c39→Sq 53 c45→Sq 54 c47→Sq 16 c48
 w38:Sq 202 c37→Sq 114 c38
 w49:Sq 118 c49
 w50:Sq 118 c49→Sq 55 c50
 w56:Sq 121 c56
 w59:Sq 84 c46→Sq 31 c59
 w39:Sq 114 c38→Sq 52 c39
 w30:Sq 310 c30
 w44:Sq 204 c43→Sq 117 c44
 w33:Sq 157 c32→Sq 354 c33
 w34:Sq 354 c33→Sq 337 c34
 w46:Sq 157 c32→Sq 84 c46
 w47:Sq 84 c46→Sq 54 c47
 w244:Sq 207 ZCX
 w236:Sq 126 c236
 w159:Sq 361 ZEK→Sq 344 c159
 w163:Sq 361 c162→Sq 344 ZEH
 w212:Sq 257 ZER→Sq 189 c212
 w141:Sq 326 ZCx→Sq 289 c141
 w178:Sq 291 ZuU→Sq 243 ZEw
 w225:Sq 301 ZCw→Sq 300 ZDj
 w162:Sq 362 ZCU→Sq 361 c162
 w201:Sq 186 ZCJ→Sq 253 c201
 w173:Sq 290 ZDh→Sq 326 c173
 w177:Sq 244 ZEE→Sq 291 ZuU
 w146:Sq 370 c146
 w129:Sq 9 ZDw→Sq 79 c124→Sq 81 ZAv→Sq 30 ZBK
 w96:Sq 317 c96
 w79:Sq 167 c75→Sq 169 c77→Sq 168 c78→Sq 91 c79
 w71:Sq 320 c64→Sq 237 c62→Sq 172 c63→Sq 321 c69→Sq 322 c70→Sq 287 c71
 w83:Sq 170 c80→Sq 171 c81→Sq 172 c63→Sq 173 c82→Sq 92 c83
 w66:Sq 376 c65→Sq 172 c63→Sq 366 c66
 w65:Sq 172 c63→Sq 376 c65
 w62:Sq 237 c62
 w111:Sq 200 ZEI→Sq 111 ZFb
 w109:Sq 309 ZCC→Sq 275 c109
 w64:Sq 237 c62→Sq 172 c63→Sq 320 c64
 w68:Sq 356 c67→Sq 341 c68
 w73:Sq 172 c63→Sq 235 c73
 w76:Sq 94 c76
 w77:Sq 94 c76→Sq 169 c77
 w118:Sq 169 c77→Sq 228 ZBv
 w92:Sq 283 c92
 w123:Sq 94 c76→Sq 169 c77→Sq 226 ZAy→Sq 113 ZA2→Sq 153 ZDN
 w120:Sq 226 ZAy→Sq 169 c77→Sq 94 c76→Sq 227 c116→Sq 201 c107→Sq 228 ZBv→Sq 225 ZEO
 w86:Sq 94 c76→Sq 238 c86
 w90:Sq 94 c76→Sq 172 c63→Sq 176 c89→Sq 96 c90
 w128:Sq 154 c127→Sq 81 ZAv
 w104:Sq 109 ZDX
 w125:Sq 79 c124→Sq 37 ZEe
 w124:Sq 151 ZDb→Sq 152 ZCu→Sq 153 ZDN→Sq 79 c124
set_option maxHeartbeats 100000000 in
theorem ws2:Ws2:=by
 refine ⟨(fun q0=>Zf Zq (Zd q0 Zk) mixed {loops:=[(0,[.reg 7 (.own (.ol 257 (.flat (Zpw)))),.reg 21 (.dat Iq)]),(2,[.reg 7 (.own (.ol 257 (.flat (Zpw)))),.reg 29 (.dat Iq)])]} Tryz.func179 (hvc:=?_)),
 (fun q0 q1 q2=>Zf Xa (Zd q0 (Zd q1 (Zd q2 Zk))) mixed {loops:=[(0,[.reg 16 (.dat Iq),.cello 1003 4 (.ol 86 (Zl3))])],draws:=[(1,[0,1,3,0,8,31,63,0,255],.op 0 (.op 1 (.op 3 (.op 4 (.alt 2 (.alt 5 (.op 6 (.alt 7 (.alt 8 (.done) (.done)) (.done))) (.alt 7 (.alt 5 (.op 6 (.alt 8 (.done) (.done))) (.done)) (.done))) (.alt 7 (.alt 2 (.alt 5 (.op 6 (.alt 8 (.done) (.done))) (.done)) (.done)) (.done))))))),(5,[0,1,0,4,12,31,63,127],.op 0 (.op 1 (.op 2 (.alt 3 (.alt 4 (.alt 5 (.op 6 (.alt 7 (.done) (.done))) (.done)) (.done)) (.done)))))]} Tryz.func59 (hvc:=?_)),
 (fun q0=>Zf Zq (Zd q0 Zk) mixed {loops:=[(0,[.reg 8 (.dat Iq),.ent 3 (nat_lit 2) (.flat Zvn.ety)])],draws:=[(1,[0,1,0,7,15,0,0,96,0,511,1023],.op 0 (.op 1 (.op 2 (.op 3 (.op 4 (.op 5 (.op 6 (.alt 7 (.alt 8 (.alt 9 (.op 10 (.done)) (.done)) (.done)) (.alt 8 (.alt 7 (.alt 9 (.op 10 (.done)) (.done)) (.done)) (.done)))))))))),(6,[0,0,0,0,8,0,56,120,252,508,0,1024,0,7168,15360,0,0,98304,229376,523264,1048572,2097151,4194303],.op 0 (.op 1 (.op 2 (.op 3 (.op 4 (.op 5 (.op 6 (.op 7 (.op 8 (.op 9 (.op 10 (.op 11 (.op 12 (.op 13 (.op 14 (.op 15 (.op 16 (.op 17 (.op 18 (.op 19 (.op 20 (.op 21 (.alt 22 (.done) (.done))))))))))))))))))))))))]} Tryz.func250 (hvc:=?_)),
 (fun q0 q1 q2 q3=>Zf Zq (Zd q0 (Zd q1 (Zd q2 (Zd q3 Zk)))) mixed {loops:=[(0,[.reg 27 (.dat Iq),.ent 2 (nat_lit 2) (.flat (Ty.int IntKind.i64))]),(2,[.reg 10 (.dat Iq),.ent 2 (nat_lit 2) (.flat (Ty.int IntKind.i64))])],draws:=[(7,[0,0,2,0,14,30,63,127,0,256,0,1024,0,0,12288,28672,65280,131071,262143,524287],.op 0 (.op 1 (.op 2 (.op 3 (.op 4 (.op 5 (.op 6 (.op 7 (.op 8 (.op 9 (.op 10 (.op 11 (.op 12 (.op 13 (.op 14 (.op 15 (.alt 16 (.op 17 (.op 18 (.alt 19 (.done) (.done)))) (.done)))))))))))))))))),(12,[0,0,2,0,14,30,63,127,0,0,768,1792,4095,8191,16383],.op 0 (.op 1 (.op 2 (.op 3 (.op 4 (.op 5 (.op 6 (.op 7 (.op 8 (.op 9 (.op 10 (.op 11 (.op 12 (.op 13 (.alt 14 (.done) (.done))))))))))))))))]} Tryz.func181 (hvc:=?_)),
 (fun q0=>Zf Zq (Zd q0 Zk) mixed {} Tryz.func359 (hvc:=?_)),
 (Zf Zq Zk mixed {} Tryz.func372 (hvc:=?_)),
 (fun q0=>Zf Zq (Zd q0 Zk) mixed {} Tryz.func290 (hvc:=?_)),
 (fun q0=>Zf Zq (Zd q0 Zk) mixed {loops:=[(0,[.reg 5 (.own (.ol 2 (.flat Iq))),.reg 11 (.dat Iq)])]} Tryz.func231 (hvc:=?_)),
 (fun q6 q1 q4 q0 q2 q5 q3 q7=>Zf Xa (Zd q6 (Zd q1 (Zd q4 (Zd q0 (Zd q2 (Zd q5 (Zd q3 (Zd q7 Zk)))))))) mixed {draws:=[(4,[0,1,3,0,8,24,0,64,248,504,1016,0,2048,8191,16383,32767],.op 0 (.op 1 (.op 2 (.op 3 (.op 4 (.op 6 (.op 7 (.op 11 (.op 12 (.alt 5 (.op 8 (.op 9 (.op 10 (.op 13 (.op 14 (.alt 15 (.done) (.done))))))) (.done))))))))))),(11,[0,1,3,0,8,31,63,0,255],.op 0 (.op 1 (.op 3 (.op 4 (.alt 2 (.op 5 (.op 6 (.alt 7 (.alt 8 (.done) (.done)) (.done)))) (.alt 7 (.alt 2 (.op 5 (.op 6 (.alt 8 (.done) (.done)))) (.done)) (.done))))))),(17,[0,1,0,4,0,16,48,127,255],.op 0 (.op 1 (.op 2 (.op 3 (.op 4 (.op 5 (.alt 6 (.op 7 (.alt 8 (.done) (.done))) (.done))))))))]} Tryz.func86 (hvc:=?_)),
 (fun q0=>Zf Zq (Zd q0 Zk) mixed {} Tryz.func268 (hvc:=?_)),
 (Zf Zq Zk mixed {} Tryz.func305 (hvc:=?_)),
 (fun q1 q0=>Zf Zq (Zd q1 (Zd q0 Zk)) mixed {} Tryz.func260 (hvc:=?_)),
 (fun q2 q0 q1 q3=>Zf Xa (Zd q2 (Zd q0 (Zd q1 (Zd q3 Zk)))) mixed {loops:=[(0,[.reg 22 (.dat Iq),.cello 1003 3 (.ol 155 (ZaM))])],draws:=[(1,[0,1,3,0,8,31,0,64,255,0,512,2047,4095,0,16383],.op 0 (.op 1 (.op 3 (.op 4 (.op 6 (.op 7 (.op 9 (.op 10 (.alt 2 (.alt 5 (.alt 8 (.alt 11 (.op 12 (.alt 13 (.alt 14 (.done) (.done)) (.done))) (.alt 13 (.alt 11 (.op 12 (.alt 14 (.done) (.done))) (.done)) (.done))) (.alt 13 (.alt 8 (.alt 11 (.op 12 (.alt 14 (.done) (.done))) (.done)) (.done)) (.done))) (.alt 13 (.alt 5 (.alt 8 (.alt 11 (.op 12 (.alt 14 (.done) (.done))) (.done)) (.done)) (.done)) (.done))) (.alt 13 (.alt 2 (.alt 5 (.alt 8 (.alt 11 (.op 12 (.alt 14 (.done) (.done))) (.done)) (.done)) (.done)) (.done)) (.done))))))))))),(5,[0,1,0,4,0,16,0,64,192,0,512,1984,0,4096,16320,32764,65532,131071,262143,524287],.op 0 (.op 1 (.op 2 (.op 3 (.op 4 (.op 5 (.op 6 (.op 7 (.op 9 (.op 10 (.op 12 (.op 13 (.alt 8 (.alt 11 (.alt 14 (.op 15 (.alt 16 (.alt 17 (.op 18 (.alt 19 (.done) (.done))) (.done)) (.done))) (.done)) (.done)) (.done))))))))))))))]} Tryz.func60 (hvc:=?_)),
 (fun q0=>Zf Zq (Zd q0 Zk) mixed {draws:=[(1,[0,1,3,0,8,31,0,64,255,0,512,2047,4095,8191],.op 0 (.op 1 (.op 3 (.op 4 (.op 6 (.op 7 (.op 9 (.op 10 (.alt 2 (.alt 5 (.alt 8 (.alt 11 (.op 12 (.alt 13 (.done) (.done))) (.done)) (.done)) (.done)) (.done))))))))))]} Tryz.func124 (hvc:=?_)),
 (Zf Zq Zk mixed {} Tryz.func298 (hvc:=?_)),
 (fun q1 q0=>Zf Zq (Zd q1 (Zd q0 Zk)) mixed {loops:=[(0,[.reg 7 (.dat Iq)])]} Tryz.func252 (hvc:=?_)),
 (fun q2 q0 q1=>Zf Zq (Zd q2 (Zd q0 (Zd q1 Zk))) mixed {loops:=[(0,[.reg 3 (.own (.ol 9 (.flat (.str)))),.reg 8 (.dat Iq)])]} Tryz.func323 (hvc:=?_)),
 (fun q0 q1=>Zf Zq (Zd q0 (Zd q1 Zk)) mixed {} Tryz.func256 (hvc:=?_)),
 (fun q0=>Zf Zq (Zd q0 Zk) mixed {} Tryz.func247 (hvc:=?_)),
 (fun q0=>Zf Zq (Zd q0 Zk) mixed {} Tryz.func292 (hvc:=?_)),
 (fun q0=>Zf Zq (Zd q0 Zk) mixed {} Tryz.func265 (hvc:=?_)),
 (Zf Zq Zk mixed {} Tryz.func357 (hvc:=?_)),
 (Zf Zq Zk mixed {loops:=[(0,[.reg 3 (.dat Iq)])],draws:=[(4,[0,0,2,7,15,0,0,96,224,511],.op 0 (.op 1 (.op 2 (.op 3 (.op 4 (.op 5 (.op 6 (.op 7 (.op 8 (.op 9 (.done)))))))))))]} Tryz.func259 (hvc:=?_)),
 (fun q0=>Zf Zq (Zd q0 Zk) mixed {} Tryz.func297 (hvc:=?_)),
 (fun q0=>Zf Zq (Zd q0 Zk) mixed {} Tryz.func258 (hvc:=?_)),
 (Zf Zq Zk mixed {} Tryz.func230 (hvc:=?_)),
 (Zf Zq Zk mixed {} Tryz.func342 (hvc:=?_)),
 (fun q0=>Zf Zq (Zd q0 Zk) mixed {} Tryz.func299 (hvc:=?_)),
 (fun q0 q2 q3 q1=>Zf Zq (Zd q0 (Zd q2 (Zd q3 (Zd q1 Zk)))) mixed {loops:=[(0,[.reg 13 (.dat Iq)])],draws:=[(4,[0,0,2,7,15,31,63,127,255,511,63,1087,4095,8191,16383,32767,65535,131071,262143,524287,1048575,2097151,262143,4456447,16777215,33554431,67108863,262143,268435455,536870911,1073741823,2147483647,4294967295,8589934591,17179869183,17179869183,51539607551,137438953471,274877906943,549755813887,17179869183,1116691496959,4398046511103,8796093022207,17592186044415],.op 0 (.op 1 (.op 2 (.alt 3 (.op 4 (.op 5 (.op 6 (.op 7 (.op 8 (.op 9 (.op 10 (.op 11 (.op 12 (.op 13 (.op 14 (.op 15 (.op 16 (.op 17 (.op 18 (.op 19 (.op 20 (.op 21 (.op 22 (.op 23 (.op 24 (.op 25 (.op 26 (.op 27 (.op 28 (.op 29 (.op 30 (.op 31 (.op 32 (.op 33 (.op 34 (.op 35 (.op 36 (.op 37 (.op 38 (.op 39 (.op 40 (.op 41 (.op 42 (.op 43 (.op 44 (.done)))))))))))))))))))))))))))))))))))))))))) (.done)))))]} Tryz.func188 (hvc:=?_)),
 (fun q0=>Zf Zq (Zd q0 Zk) mixed {} Tryz.func186 (hvc:=?_)),
 (fun q0=>Zf Zq (Zd q0 Zk) mixed {} Tryz.func313 (hvc:=?_)),
 (fun q0=>Zf Zq (Zd q0 Zk) mixed {loops:=[(0,[.reg 5 (.dat Iq)])],draws:=[(6,[0,0,3,7,0,0,48,112,255,511],.op 0 (.op 1 (.op 2 (.op 3 (.op 4 (.op 5 (.op 6 (.op 7 (.alt 8 (.op 9 (.done)) (.done))))))))))]} Tryz.func279 (hvc:=?_)),
 (fun q0 q1 q2=>Zf Zq (Zd q0 (Zd q1 (Zd q2 Zk))) mixed {} Tryz.func19 (hvc:=?_)),
 (fun q1 q2 q0=>Zf Zq (Zd q1 (Zd q2 (Zd q0 Zk))) mixed {} Tryz.func212 (hvc:=?_)),
 (fun q0=>Zf Zq (Zd q0 Zk) mixed {loops:=[(0,[.reg 5 (.dat Iq)])],draws:=[(6,[0,0,3,7,0,0,48,112,255,511],.op 0 (.op 1 (.op 2 (.op 3 (.op 4 (.op 5 (.op 6 (.op 7 (.alt 8 (.op 9 (.done)) (.done))))))))))]} Tryz.func129 (hvc:=?_)),
 (Zf Zq Zk mixed {} Tryz.func133 (hvc:=?_)),
 (fun q0=>Zf Zq (Zd q0 Zk) mixed {loops:=[(0,[.reg 5 (.dat Iq)])],draws:=[(6,[0,0,3,7,0,0,48,112,255,511],.op 0 (.op 1 (.op 2 (.op 3 (.op 4 (.op 5 (.op 6 (.op 7 (.alt 8 (.op 9 (.done)) (.done))))))))))]} Tryz.func64 (hvc:=?_)),
 (fun q0=>Zf Zq (Zd q0 Zk) mixed {} Tryz.func135 (hvc:=?_)),
 (fun q0=>Zf Zq (Zd q0 Zk) mixed {loops:=[(0,[.reg 5 (.dat Iq)])],draws:=[(6,[0,0,3,7,0,0,48,112,255,511],.op 0 (.op 1 (.op 2 (.op 3 (.op 4 (.op 5 (.op 6 (.op 7 (.alt 8 (.op 9 (.done)) (.done))))))))))]} Tryz.func130 (hvc:=?_)),
 (fun q0=>Zf Zq (Zd q0 Zk) mixed {} Tryz.func61 (hvc:=?_)),
 (Zf Zq Zk mixed {} Tryz.func214 (hvc:=?_)),
 (fun q0=>Zf Zq (Zd q0 Zk) mixed {loops:=[(0,[.reg 1 (.dat Iq),.reg 5 (.dat Iq)])]} Tryz.func282 (hvc:=?_)),
 (fun q0 q1 q2=>Zf Zq (Zd q0 (Zd q1 (Zd q2 Zk))) mixed {} Tryz.func76 (hvc:=?_)),
 (fun q1 q2 q3 q0=>Zf Zq (Zd q1 (Zd q2 (Zd q3 (Zd q0 Zk)))) mixed {loops:=[(0,[.reg 1 (.dat Iq),.reg 5 (.dat Iq)])],draws:=[(4,[0,0,3,7,15,0,32,127],.op 0 (.op 1 (.op 2 (.op 3 (.op 4 (.op 5 (.alt 6 (.op 7 (.done)) (.done))))))))]} Tryz.func218 (hvc:=?_)),
 (fun q1 q0=>Zf Zq (Zd q1 (Zd q0 Zk)) mixed {loops:=[(0,[.reg 1 (.dat Iq),.reg 5 (.dat Iq)])],draws:=[(19,[0,0,3,7,15,0,32,127],.op 0 (.op 1 (.op 2 (.op 3 (.op 4 (.op 5 (.alt 6 (.op 7 (.done)) (.done))))))))]} Tryz.func78 (hvc:=?_)),
 (fun q3 q1 q0 q2=>Zf Zq (Zd q3 (Zd q1 (Zd q0 (Zd q2 Zk)))) mixed {} Tryz.func77 (hvc:=?_)),
 (fun q0=>Zf Zq (Zd q0 Zk) mixed {loops:=[(0,[.reg 1 (.dat Iq),.reg 5 (.dat Iq)])],draws:=[(4,[0,0,3,7,0,16,63],.op 0 (.op 1 (.op 2 (.op 3 (.op 4 (.alt 5 (.op 6 (.done)) (.done)))))))]} Tryz.func220 (hvc:=?_)),
 (fun q0=>Zf Zq (Zd q0 Zk) mixed {loops:=[(0,[.reg 1 (.dat Iq),.reg 5 (.dat Iq)])]} Tryz.func145 (hvc:=?_)),
 (fun q0=>Zf Xa (Zd q0 Zk) mixed {loops:=[(0,[.reg 1 (.dat Iq),.reg 5 (.dat Iq),.ent 0 (nat_lit 289) (Dp.pair (Dp.flat (Ty.int IntKind.i64)) (Dp.pair (Dp.flat (Ty.int IntKind.i64)) (Dp.pair (Dp.flat (Ty.int IntKind.i64)) (Dp.pair (Dp.flat (Ty.int IntKind.i64)) (Dp.pair (Dp.ol (341:Go.TypeId) Zgw) (Dp.pair (Dp.ol (341:Go.TypeId) Zgw) (Dp.flat Ty.unit)))))))])]} Tryz.func217 (hvc:=?_)),
 (fun q0=>Zf Xa (Zd q0 Zk) mixed {loops:=[(0,[.reg 1 (.dat Iq),.reg 5 (.dat Iq),.ent 0 (nat_lit 155) (Dp.pair (Dp.flat (Ty.int IntKind.i64)) (Dp.pair (Dp.flat (Ty.int IntKind.i64)) (Dp.pair (Dp.ol (2:Go.TypeId) (Dp.flat (Ty.int IntKind.i64))) (Dp.pair (Dp.ol (2:Go.TypeId) (Dp.flat (Ty.int IntKind.i64))) (Dp.pair (Dp.ol (2:Go.TypeId) (Dp.flat (Ty.int IntKind.i64))) (Dp.flat Ty.unit))))))])]} Tryz.func73 (hvc:=?_)),
 (Zf Xa Zk mixed {loops:=[(0,[.reg 1 (.dat Iq),.reg 5 (.dat Iq),.ent 0 (nat_lit 2) (.flat (Ty.int IntKind.i64))])]} Tryz.func141 (hvc:=?_)),
 (fun q0 q1 q2=>Zf Xa (Zd q0 (Zd q1 (Zd q2 Zk))) mixed {} Tryz.func23 (hvc:=?_)),
 (fun q3 q1 q0 q2=>Zf Xa (Zd q3 (Zd q1 (Zd q0 (Zd q2 Zk)))) mixed {} Tryz.func22 (hvc:=?_)),
 (fun q0=>Zf Xa (Zd q0 Zk) mixed {loops:=[(0,[.reg 1 (.dat Iq),.reg 5 (.dat Iq),.ent 0 (nat_lit 86) (Dp.pair (Dp.ol (2:Go.TypeId) (Dp.flat (Ty.int IntKind.i64))) (Dp.pair (Dp.ol (2:Go.TypeId) (Dp.flat (Ty.int IntKind.i64))) (Dp.pair (Dp.ol (2:Go.TypeId) (Dp.flat (Ty.int IntKind.i64))) (Dp.pair (Dp.ol (2:Go.TypeId) (Dp.flat (Ty.int IntKind.i64))) (Dp.flat Ty.unit)))))])]} Tryz.func70 (hvc:=?_)),
 (fun q0=>Zf Zq (Zd q0 Zk) mixed {loops:=[(0,[.reg 1 (.dat Iq),.reg 5 (.dat Iq)])]} Tryz.func274 (hvc:=?_)),
 (fun q0=>Zf Zq (Zd q0 Zk) mixed {loops:=[(0,[.reg 1 (.dat Iq),.reg 5 (.dat Iq)])]} Tryz.func102 (hvc:=?_)),
 (fun q0=>Zf Zq (Zd q0 Zk) mixed {loops:=[(0,[.reg 1 (.dat Iq),.reg 5 (.dat Iq)])]} Tryz.func45 (hvc:=?_)),
 (Zf Zq Zk mixed {} Tryz.func108 (hvc:=?_)),
 (fun q0=>Zf Zq (Zd q0 Zk) mixed {} Tryz.func107 (hvc:=?_)),
 (fun q0=>Zf Zq (Zd q0 Zk) mixed {loops:=[(0,[.reg 1 (.dat Iq),.reg 5 (.dat Iq)])]} Tryz.func103 (hvc:=?_)),
 (Zf Zq Zk mixed {} Tryz.func199 (hvc:=?_)),
 (fun q3 q1 q0 q2=>Zf Zq (Zd q3 (Zd q1 (Zd q0 (Zd q2 Zk)))) mixed {} Tryz.func14 (hvc:=?_)),
 (fun q0=>Zf Zq (Zd q0 Zk) mixed {} Tryz.func353 (hvc:=?_)),
 (fun q0=>Zf Xa (Zd q0 Zk) mixed {} Tryz.func311 (hvc:=?_)),
 (fun q0 q1 q2=>Zf Xa (Zd q0 (Zd q1 (Zd q2 Zk))) mixed {} Tryz.func16 (hvc:=?_)),
 (fun q0=>Zf Xa (Zd q0 Zk) mixed {loops:=[(0,[.reg 4 (.dat Iq),.ent 0 (nat_lit 277) Zoy])]} Tryz.func114 (hvc:=?_)),
 (Zf Zq Zk mixed {} Tryz.func118 (hvc:=?_)),
 (fun q0=>Zf Zq (Zd q0 Zk) mixed {loops:=[(0,[.reg 4 (.dat Iq),.ent 0 (nat_lit 150) (.flat ZBx.ety)])]} Tryz.func55 (hvc:=?_)),
 (Zf Zq Zk mixed {} Tryz.func121 (hvc:=?_)),
 (fun q0=>Zf Zq (Zd q0 Zk) mixed {} Tryz.func31 (hvc:=?_)),
 (fun q0=>Zf Xa (Zd q0 Zk) mixed {} Tryz.func52 (hvc:=?_)),
 (Zf Zq Zk mixed {} Tryz.func310 (hvc:=?_)),
 (fun q0=>Zf Zq (Zd q0 Zk) mixed {loops:=[(0,[.reg 4 (.dat Iq),.ent 0 (nat_lit 246) (.flat ZAK.ety)])]} Tryz.func117 (hvc:=?_)),
 (fun q0=>Zf Zq (Zd q0 Zk) mixed {} Tryz.func354 (hvc:=?_)),
 (fun q0=>Zf Xa (Zd q0 Zk) mixed {loops:=[(0,[.reg 4 (.dat Iq),.ent 0 (nat_lit 341) Zgw])]} Tryz.func337 (hvc:=?_)),
 (fun q0=>Zf Zq (Zd q0 Zk) mixed {} Tryz.func84 (hvc:=?_)),
 (fun q0=>Zf Xa (Zd q0 Zk) mixed {loops:=[(0,[.reg 4 (.dat Iq),.ent 0 (nat_lit 86) Zl3])]} Tryz.func54 (hvc:=?_)),
 (Zf Zq Zk mixed {} Tryz.func207 (hvc:=?_)),
 (Zf Zq Zk mixed {} Tryz.func126 (hvc:=?_)),
 (fun q0=>Zf Zq (Zd q0 Zk) mixed {} Tryz.func344 (hvc:=?_)),
 (fun q0=>Zf Zq (Zd q0 Zk) mixed {} Tryz.func344 (hvc:=?_)),
 (fun q0=>Zf Zq (Zd q0 Zk) mixed {} Tryz.func189 (hvc:=?_)),
 (fun q0=>Zf Zq (Zd q0 Zk) mixed {} Tryz.func289 (hvc:=?_)),
 (fun q0=>Zf Zq (Zd q0 Zk) mixed {} Tryz.func243 (hvc:=?_)),
 (fun q0=>Zf Zq (Zd q0 Zk) mixed {loops:=[(0,[.reg 17 (.dat Iq)])]} Tryz.func300 (hvc:=?_)),
 (fun q0=>Zf Zq (Zd q0 Zk) mixed {loops:=[(0,[.reg 8 (.dat Iq)])]} Tryz.func361 (hvc:=?_)),
 (fun q0=>Zf Zq (Zd q0 Zk) mixed {loops:=[(0,[.reg 8 (.dat Iq)])]} Tryz.func253 (hvc:=?_)),
 (fun q0=>Zf Zq (Zd q0 Zk) mixed {loops:=[(0,[.reg 8 (.dat Iq)])]} Tryz.func326 (hvc:=?_)),
 (fun q0=>Zf Zq (Zd q0 Zk) mixed {loops:=[(0,[.reg 8 (.dat Iq)])]} Tryz.func291 (hvc:=?_)),
 (Zf Zq Zk mixed {loops:=[(0,[.reg 3 (.dat Iq),.reg 4 (.dat Iq)])]} Tryz.func370 (hvc:=?_)),
 (fun q0 q2 q1=>Zf Zq (Zd q0 (Zd q2 (Zd q1 Zk))) mixed {draws:=[(6,[0,0,0,0,8,28,63,127,255],.op 0 (.op 1 (.op 2 (.op 3 (.op 4 (.alt 5 (.op 6 (.alt 7 (.op 8 (.done)) (.done))) (.done)))))))]} Tryz.func30 (hvc:=?_)),
 (Zf Zq Zk mixed {loops:=[(0,[.reg 5 (.dat Iq)])]} Tryz.func317 (hvc:=?_)),
 (fun q0 q1 q2=>Zf Zq (Zd q0 (Zd q1 (Zd q2 Zk))) mixed {loops:=[(0,[.reg 3 (.dat Iq)])],draws:=[(6,[0,1,0,7,15,0,32,0,224,480,1023,2047],.op 0 (.op 1 (.op 2 (.op 3 (.op 4 (.op 5 (.op 6 (.op 7 (.alt 8 (.op 9 (.alt 10 (.op 11 (.done)) (.done))) (.done))))))))))]} Tryz.func91 (hvc:=?_)),
 (fun q1 q2 q4 q3 q0=>Zf Zq (Zd q1 (Zd q2 (Zd q4 (Zd q3 (Zd q0 Zk))))) mixed {loops:=[(0,[.reg 5 (.dat Iq)]),(2,[.reg 7 (.dat Iq)]),(5,[.reg 9 (.dat Iq)])],draws:=[(13,[0,1,0,7,15,31,0,64,255,511,1023,2047,1023,8191,16383,32767,1023,66559,262143,524287,1048575,2097151,4194303,2097151,16777215,33554431,67108863,2097151,136314879,536870911,1073741823],.op 0 (.op 1 (.op 2 (.op 3 (.op 4 (.op 5 (.op 6 (.op 7 (.op 8 (.op 9 (.op 10 (.op 11 (.op 12 (.op 13 (.op 14 (.op 15 (.op 16 (.op 17 (.op 18 (.op 19 (.op 20 (.op 21 (.op 22 (.op 23 (.op 24 (.op 25 (.op 26 (.op 27 (.op 28 (.op 29 (.op 30 (.done)))))))))))))))))))))))))))))))),(25,[0,1,3,7,15,31,63,127,255,511,1023,2047,4095,511,8703,25087,57855,131071,262143,524287,1048575,2097151,4194303,8388607,16777215,33554431],.op 0 (.op 1 (.op 2 (.op 3 (.op 4 (.op 5 (.op 6 (.op 7 (.op 8 (.op 9 (.op 10 (.op 11 (.op 12 (.op 13 (.op 14 (.op 15 (.op 16 (.op 17 (.op 18 (.op 19 (.op 20 (.op 21 (.op 22 (.op 23 (.op 24 (.op 25 (.done)))))))))))))))))))))))))))]} Tryz.func287 (hvc:=?_)),
 (fun q1 q0 q2 q3=>Zf Zq (Zd q1 (Zd q0 (Zd q2 (Zd q3 Zk)))) mixed {loops:=[(0,[.reg 3 (.dat Iq)]),(2,[.reg 5 (.dat Iq)])],draws:=[(10,[0,0,3,7,15,0,32,127],.op 0 (.op 1 (.op 2 (.op 3 (.op 4 (.op 5 (.op 6 (.op 7 (.done)))))))))]} Tryz.func92 (hvc:=?_)),
 (fun q0 q1=>Zf Zq (Zd q0 (Zd q1 Zk)) mixed {loops:=[(0,[.reg 3 (.dat Iq)])]} Tryz.func366 (hvc:=?_)),
 (fun q0=>Zf Zq (Zd q0 Zk) mixed {loops:=[(0,[.reg 3 (.dat Iq)])],draws:=[(4,[0,0,3,7,15,31,63,127,255,511,1023,1023,3071,8191,16383,1023,1023,99327,230399,524287,1048575,2097151],.op 0 (.op 1 (.op 2 (.op 3 (.alt 4 (.op 5 (.op 6 (.op 7 (.op 8 (.op 9 (.op 10 (.op 11 (.op 12 (.op 13 (.op 14 (.op 15 (.op 16 (.op 17 (.op 18 (.op 19 (.op 20 (.op 21 (.done)))))))))))))))))) (.done))))))]} Tryz.func376 (hvc:=?_)),
 (Zf Zq Zk mixed {loops:=[(0,[.reg 3 (.dat Iq)])]} Tryz.func237 (hvc:=?_)),
 (fun q0=>Zf Xa (Zd q0 Zk) mixed {loops:=[(0,[.reg 4 (.dat Iq),.cello 1003 0 (.ol 277 (Zoy))])],draws:=[(5,[0,1,0,4,0,28,60,124,252,511,1023,2047],.op 0 (.op 1 (.op 2 (.op 3 (.op 4 (.op 5 (.op 6 (.alt 7 (.alt 8 (.alt 9 (.op 10 (.alt 11 (.done) (.done))) (.done)) (.done)) (.done)))))))))]} Tryz.func111 (hvc:=?_)),
 (fun q0=>Zf Xa (Zd q0 Zk) mixed {loops:=[(0,[.reg 3 (.own (.ol 341 (Zgw))),.reg 4 (.dat Iq)])]} Tryz.func275 (hvc:=?_)),
 (fun q0 q1=>Zf Zq (Zd q0 (Zd q1 Zk)) mixed {loops:=[(0,[.reg 5 (.dat Iq),.reg 6 (.dat Iq)]),(2,[.reg 8 (.dat Iq)])],draws:=[(12,[0,1,0,7,15,31,0,64,255],.op 0 (.op 1 (.op 2 (.op 3 (.op 4 (.op 5 (.op 6 (.op 7 (.op 8 (.done))))))))))]} Tryz.func320 (hvc:=?_)),
 (fun q0=>Zf Zq (Zd q0 Zk) mixed {loops:=[(0,[.reg 5 (.dat Iq)])]} Tryz.func341 (hvc:=?_)),
 (fun q0=>Zf Zq (Zd q0 Zk) mixed {loops:=[(0,[.reg 6 (.dat Iq)]),(2,[.reg 8 (.dat Iq)]),(4,[.reg 9 (.dat Iq)])],draws:=[(6,[0,1,0,4,12,28,63,127,255,511,1023,2047,511,4607,511,16895,61951,127487,258559,520703,1048575,2097151],.op 0 (.op 1 (.op 2 (.op 3 (.op 4 (.op 5 (.alt 6 (.op 7 (.op 8 (.op 9 (.op 10 (.op 11 (.op 12 (.op 13 (.op 14 (.op 15 (.op 16 (.op 17 (.op 18 (.op 19 (.op 20 (.op 21 (.done)))))))))))))))) (.done))))))))]} Tryz.func235 (hvc:=?_)),
 (Zf Zq Zk mixed {loops:=[(0,[.reg 3 (.own (.ol 244 (.flat (ZfE)))),.reg 4 (.dat Iq)]),(2,[.reg 3 (.own (.ol 244 (.flat (ZfE)))),.reg 6 (.dat Iq)]),(4,[.reg 3 (.own (.ol 244 (.flat (ZfE)))),.reg 7 (.dat Iq)])],draws:=[(13,[0,0,0,4,0,28,60,124,0,256,0,1792,3840,7936,16128,32766,65534,131071,262143],.op 0 (.op 1 (.op 2 (.op 3 (.op 4 (.op 5 (.op 6 (.op 7 (.op 8 (.op 9 (.op 10 (.op 11 (.op 12 (.op 13 (.op 14 (.op 15 (.alt 16 (.alt 17 (.op 18 (.done)) (.done)) (.done))))))))))))))))))]} Tryz.func94 (hvc:=?_)),
 (fun q0=>Zf Zq (Zd q0 Zk) mixed {loops:=[(0,[.reg 5 (.own (.ol 2 (.flat Iq))),.reg 7 (.dat Iq)])]} Tryz.func169 (hvc:=?_)),
 (fun q0=>Zf Xa (Zd q0 Zk) mixed {loops:=[(0,[.reg 5 (.dat Iq),.ent 4 (nat_lit 86) (Dp.pair (Dp.ol (2:Go.TypeId) (Dp.flat (Ty.int IntKind.i64))) (Dp.pair (Dp.ol (2:Go.TypeId) (Dp.flat (Ty.int IntKind.i64))) (Dp.pair (Dp.ol (2:Go.TypeId) (Dp.flat (Ty.int IntKind.i64))) (Dp.pair (Dp.ol (2:Go.TypeId) (Dp.flat (Ty.int IntKind.i64))) (Dp.flat Ty.unit)))))]),(2,[.reg 6 (.own (.ol 2 (.flat Iq))),.reg 8 (.dat Iq)])]} Tryz.func228 (hvc:=?_)),
 (Zf Zq Zk mixed {} Tryz.func283 (hvc:=?_)),
 (fun q1 q2 q3 q0=>Zf Zq (Zd q1 (Zd q2 (Zd q3 (Zd q0 Zk)))) mixed {draws:=[(4,[0,1,0,4,12,0,0,64,224,480,992,2044,4092,8188,16383,32767],.op 0 (.op 1 (.op 2 (.op 3 (.op 4 (.op 5 (.op 6 (.op 7 (.op 8 (.op 9 (.op 10 (.op 11 (.op 12 (.op 13 (.op 14 (.alt 15 (.done) (.done))))))))))))))))),(14,[0,1,0,0,8,28,60,124,0,256,0,1024,3840,7936,16383,32767],.op 0 (.op 1 (.op 2 (.op 3 (.op 4 (.op 5 (.op 6 (.op 7 (.op 8 (.op 10 (.op 11 (.alt 9 (.op 12 (.op 13 (.op 14 (.alt 15 (.done) (.done))))) (.done))))))))))))),(15,[0,1,0,4,0,16,60,124,252,511,1023],.op 0 (.op 1 (.op 2 (.op 3 (.op 4 (.op 5 (.op 6 (.op 7 (.alt 8 (.op 9 (.alt 10 (.done) (.done))) (.done))))))))))]} Tryz.func153 (hvc:=?_)),
 (fun q3 q4 q1 q0 q5 q2=>Zf Zxn (Zd q3 (Zd q4 (Zd q1 (Zd q0 (Zd q5 (Zd q2 Zk)))))) mixed {draws:=[(7,[0,1,0,4,12,0,60,124,0,256,768,0,3840,7936,16128,32512,65280,131071],.op 0 (.op 1 (.op 2 (.op 3 (.op 5 (.op 8 (.op 9 (.op 10 (.op 11 (.op 12 (.op 13 (.op 14 (.op 15 (.op 16 (.alt 4 (.op 6 (.op 7 (.alt 17 (.done) (.done)))) (.done)))))))))))))))),(8,[0,0,2,7,15,0,0,96,255,511],.op 0 (.op 1 (.op 2 (.op 5 (.op 6 (.alt 3 (.alt 4 (.alt 7 (.alt 8 (.op 9 (.done)) (.done)) (.done)) (.alt 7 (.alt 4 (.alt 8 (.op 9 (.done)) (.done)) (.done)) (.done))) (.alt 7 (.alt 3 (.alt 4 (.alt 8 (.op 9 (.done)) (.done)) (.done)) (.done)) (.done)))))))),(9,[0,1,3,0,15,0,32,96,0,480,0,1024,3072,8191,0,32767],.op 0 (.op 1 (.op 2 (.op 3 (.op 5 (.op 6 (.op 7 (.op 8 (.op 10 (.op 11 (.op 12 (.alt 4 (.alt 9 (.op 13 (.alt 14 (.alt 15 (.done) (.done)) (.done))) (.alt 14 (.alt 9 (.op 13 (.alt 15 (.done) (.done))) (.done)) (.done))) (.alt 9 (.alt 4 (.op 13 (.alt 14 (.alt 15 (.done) (.done)) (.done))) (.alt 14 (.alt 4 (.op 13 (.alt 15 (.done) (.done))) (.done)) (.done))) (.alt 14 (.alt 4 (.alt 9 (.op 13 (.alt 15 (.done) (.done))) (.done)) (.alt 9 (.alt 4 (.op 13 (.alt 15 (.done) (.done))) (.done)) (.done))) (.done))))))))))))))),(10,[0,1,0,0,8,0,56,127,0,511,1023],.op 0 (.op 1 (.op 2 (.op 3 (.op 4 (.op 5 (.op 8 (.alt 6 (.op 7 (.alt 9 (.alt 10 (.done) (.done)) (.done))) (.done)))))))))]} Tryz.func225 (hvc:=?_)),
 (fun q0=>Zf Zq (Zd q0 Zk) mixed {} Tryz.func238 (hvc:=?_)),
 (fun q0 q2 q1=>Zf Zq (Zd q0 (Zd q2 (Zd q1 Zk))) mixed {loops:=[(0,[.reg 10 (.dat Iq)])],draws:=[(6,[0,1,0,4,12,31,63,127,255,511,1023,2047,2047,6143,16383,32767,65535,2047,133119,524287,1048575,2097151,4194303,8388607,16777215,8388607,41943039,109051903,243269631,536870911,1073741823,2147483647],.op 0 (.op 1 (.op 2 (.op 3 (.op 4 (.alt 5 (.op 6 (.op 7 (.op 8 (.op 9 (.op 10 (.op 11 (.op 12 (.op 13 (.op 14 (.op 15 (.op 16 (.op 17 (.op 18 (.op 19 (.op 20 (.op 21 (.op 22 (.op 23 (.op 24 (.op 25 (.op 26 (.op 27 (.op 28 (.alt 29 (.op 30 (.op 31 (.done))) (.done))))))))))))))))))))))))) (.done)))))))]} Tryz.func96 (hvc:=?_)),
 (fun q0=>Zf Zq (Zd q0 Zk) mixed {loops:=[(0,[.reg 5 (.own (.ol 88 (.flat (XL)))),.reg 6 (.dat Iq)])]} Tryz.func81 (hvc:=?_)),
 (Zf Zq Zk mixed {loops:=[(0,[.reg 6 (.own (.ol 2 (.flat Iq))),.reg 7 (.dat Iq)])]} Tryz.func109 (hvc:=?_)),
 (fun q0=>Zf Zq (Zd q0 Zk) mixed {loops:=[(0,[.reg 7 (.dat Iq),.cell 1003 0 (.sl (QL)),.cell 1003 1 (.sl (Yq)),.cell 1003 2 (.sl (.str)),.cell 1003 3 (.sl (Zcd)),.cell 1003 4 (.sl (Vv)),.cell 1004 0 (.sl (XF)),.cell 1004 1 (.sl (Yg)),.cell 1004 2 (.sl (Yg)),.cell 1004 3 (.sl (Yn)),.cell 1004 4 (.sl (Xf))])],draws:=[(4,[0,0,0,0,12,28,63,127,255,255,255,255,0,0,0,29183,62463,129023,262143],.op 0 (.op 1 (.op 2 (.op 3 (.op 4 (.op 5 (.alt 6 (.op 7 (.op 8 (.op 9 (.op 10 (.op 11 (.alt 12 (.alt 13 (.alt 14 (.alt 15 (.alt 16 (.alt 17 (.op 18 (.done)) (.done)) (.done)) (.done)) (.done)) (.alt 14 (.alt 13 (.alt 15 (.alt 16 (.alt 17 (.op 18 (.done)) (.done)) (.done)) (.done)) (.done)) (.done))) (.alt 13 (.alt 12 (.alt 14 (.alt 15 (.alt 16 (.alt 17 (.op 18 (.done)) (.done)) (.done)) (.done)) (.done)) (.alt 14 (.alt 12 (.alt 15 (.alt 16 (.alt 17 (.op 18 (.done)) (.done)) (.done)) (.done)) (.done)) (.done))) (.alt 14 (.alt 12 (.alt 13 (.alt 15 (.alt 16 (.alt 17 (.op 18 (.done)) (.done)) (.done)) (.done)) (.done)) (.alt 13 (.alt 12 (.alt 15 (.alt 16 (.alt 17 (.op 18 (.done)) (.done)) (.done)) (.done)) (.done)) (.done))) (.done))))))))) (.alt 12 (.alt 6 (.op 7 (.op 8 (.op 9 (.op 10 (.op 11 (.alt 13 (.alt 14 (.alt 15 (.alt 16 (.alt 17 (.op 18 (.done)) (.done)) (.done)) (.done)) (.done)) (.alt 14 (.alt 13 (.alt 15 (.alt 16 (.alt 17 (.op 18 (.done)) (.done)) (.done)) (.done)) (.done)) (.done)))))))) (.alt 13 (.alt 6 (.op 7 (.op 8 (.op 9 (.op 10 (.op 11 (.alt 14 (.alt 15 (.alt 16 (.alt 17 (.op 18 (.done)) (.done)) (.done)) (.done)) (.done))))))) (.alt 14 (.alt 6 (.op 7 (.op 8 (.op 9 (.op 10 (.op 11 (.alt 15 (.alt 16 (.alt 17 (.op 18 (.done)) (.done)) (.done)) (.done))))))) (.done)) (.done))) (.alt 14 (.alt 6 (.op 7 (.op 8 (.op 9 (.op 10 (.op 11 (.alt 13 (.alt 15 (.alt 16 (.alt 17 (.op 18 (.done)) (.done)) (.done)) (.done)) (.done))))))) (.alt 13 (.alt 6 (.op 7 (.op 8 (.op 9 (.op 10 (.op 11 (.alt 15 (.alt 16 (.alt 17 (.op 18 (.done)) (.done)) (.done)) (.done))))))) (.done)) (.done))) (.done)))) (.alt 13 (.alt 6 (.op 7 (.op 8 (.op 9 (.op 10 (.op 11 (.alt 12 (.alt 14 (.alt 15 (.alt 16 (.alt 17 (.op 18 (.done)) (.done)) (.done)) (.done)) (.done)) (.alt 14 (.alt 12 (.alt 15 (.alt 16 (.alt 17 (.op 18 (.done)) (.done)) (.done)) (.done)) (.done)) (.done)))))))) (.alt 12 (.alt 6 (.op 7 (.op 8 (.op 9 (.op 10 (.op 11 (.alt 14 (.alt 15 (.alt 16 (.alt 17 (.op 18 (.done)) (.done)) (.done)) (.done)) (.done))))))) (.alt 14 (.alt 6 (.op 7 (.op 8 (.op 9 (.op 10 (.op 11 (.alt 15 (.alt 16 (.alt 17 (.op 18 (.done)) (.done)) (.done)) (.done))))))) (.done)) (.done))) (.alt 14 (.alt 6 (.op 7 (.op 8 (.op 9 (.op 10 (.op 11 (.alt 12 (.alt 15 (.alt 16 (.alt 17 (.op 18 (.done)) (.done)) (.done)) (.done)) (.done))))))) (.alt 12 (.alt 6 (.op 7 (.op 8 (.op 9 (.op 10 (.op 11 (.alt 15 (.alt 16 (.alt 17 (.op 18 (.done)) (.done)) (.done)) (.done))))))) (.done)) (.done))) (.done)))) (.alt 14 (.alt 6 (.op 7 (.op 8 (.op 9 (.op 10 (.op 11 (.alt 12 (.alt 13 (.alt 15 (.alt 16 (.alt 17 (.op 18 (.done)) (.done)) (.done)) (.done)) (.done)) (.alt 13 (.alt 12 (.alt 15 (.alt 16 (.alt 17 (.op 18 (.done)) (.done)) (.done)) (.done)) (.done)) (.done)))))))) (.alt 12 (.alt 6 (.op 7 (.op 8 (.op 9 (.op 10 (.op 11 (.alt 13 (.alt 15 (.alt 16 (.alt 17 (.op 18 (.done)) (.done)) (.done)) (.done)) (.done))))))) (.alt 13 (.alt 6 (.op 7 (.op 8 (.op 9 (.op 10 (.op 11 (.alt 15 (.alt 16 (.alt 17 (.op 18 (.done)) (.done)) (.done)) (.done))))))) (.done)) (.done))) (.alt 13 (.alt 6 (.op 7 (.op 8 (.op 9 (.op 10 (.op 11 (.alt 12 (.alt 15 (.alt 16 (.alt 17 (.op 18 (.done)) (.done)) (.done)) (.done)) (.done))))))) (.alt 12 (.alt 6 (.op 7 (.op 8 (.op 9 (.op 10 (.op 11 (.alt 15 (.alt 16 (.alt 17 (.op 18 (.done)) (.done)) (.done)) (.done))))))) (.done)) (.done))) (.done)))) (.done)))))))))))]} Tryz.func37 (hvc:=?_)),
 (fun q0 q2 q1=>Zf Xa (Zd q0 (Zd q2 (Zd q1 Zk))) mixed {draws:=[(4,[0,0,3,0,0,0,55,119,255,511,1023],.op 0 (.op 1 (.op 4 (.op 5 (.alt 2 (.alt 3 (.alt 6 (.alt 7 (.alt 8 (.alt 9 (.op 10 (.done)) (.done)) (.done)) (.done)) (.done)) (.alt 6 (.alt 3 (.alt 7 (.alt 8 (.alt 9 (.op 10 (.done)) (.done)) (.done)) (.done)) (.alt 7 (.alt 3 (.alt 8 (.alt 9 (.op 10 (.done)) (.done)) (.done)) (.done)) (.done))) (.done))) (.alt 3 (.alt 2 (.alt 6 (.alt 7 (.alt 8 (.alt 9 (.op 10 (.done)) (.done)) (.done)) (.done)) (.done)) (.done)) (.done)))))))]} Tryz.func79 (hvc:=?_))⟩
 all_goals
  intro a
  repeat rcases a with ⟨_,a⟩
  rintro K ⟨r,h,hK⟩
  repeat'
    conv=>whnf
    first
    | with_reducible refine ZvK ?_
    | with_reducible refine ZeS (by assumption) (by assumption) (by assumption) ?_
    | with_reducible refine QO (by assumption) ?_
    | with_reducible refine ZeX (by assumption) ?_
    | (with_reducible refine shD ?_);first | refine ZsV h (fun h=>?_) (fun h=>?_) | refine Zvc h (fun h=>?_) (fun h=>?_)
    | (with_reducible refine Zvw ?_);first | refine Zzx ?_ | refine Zs3 ?_
    | (with_reducible refine ZAC ?_);first | refine ZuI h (fun h=>?_) (fun h=>?_) | refine Zvv h (fun h=>?_) (fun h=>?_)
    | (with_reducible refine Zva ?_);(refine ⟨fun hd=>?_,?_⟩)<;>try subst hd
    | (with_reducible refine ZAt ?_);first | with_reducible refine Zc5 h (fun x hb h=>?_) | refine ZeX (by assumption) ?_ | with_reducible refine pG h (fun hp h=>?_) | with_reducible refine pA h (fun x ha hb hx h=>?_) | with_reducible refine pB h (fun x hb h=>?_) | refine Zc5 h (fun x hb h=>?_)
    | (with_reducible refine ZAA ?_);first | with_reducible refine vAt h (fun x ha hb hx h=>?_) | refine ZeS (by assumption) (by assumption) (by assumption) ?_ | with_reducible refine pG h (fun hp h=>?_) | with_reducible refine pA h (fun x ha hb hx h=>?_) | with_reducible refine pB h (fun x hb h=>?_) | refine vAt h (fun x ha hb hx h=>?_)
    | (with_reducible refine ZvL ?_);first | with_reducible refine Zok h (fun x hb h=>?_) | refine QO (by assumption) ?_ | with_reducible refine pG h (fun hp h=>?_) | with_reducible refine pA h (fun x ha hb hx h=>?_) | with_reducible refine pB h (fun x hb h=>?_) | refine Zok h (fun x hb h=>?_)
    | with_reducible refine ZAF ?_
    | (with_reducible refine ZqE ?_);refine ZqA h hK ?_;clear h hK;intro I μ v r h hK;(repeat rcases v with ⟨_,v⟩);(try dsimp only at h)
    | with_reducible refine ⟨by assumption,?_⟩
    | with_reducible refine orL ?_
    | with_reducible refine .inr ?_
    | (with_reducible refine ZvB ?_);first | refine ⟨?_,True.intro⟩ | refine ⟨?_,?_⟩
    | refine ⟨by kernel_rfl,?_⟩
    | refine ⟨by decide,?_⟩
    | with_reducible refine ZpS h (fun hp h=>?_)
    | intro fp
    | exact trivial
    | with_reducible exact Zvu h
    | (refine pS h (fun e=>?_));subst e;(repeat (first | exact hK | exact ⟨⟨rfl,rfl⟩,hK.1 _ rfl⟩ | (refine pR hK (fun e hK=>?_));subst e));done
    | refine ZpS h (fun hp h=>?_)
    | refine ⟨by assumption,?_⟩
    | with_reducible refine pG h (fun hp h=>?_) | with_reducible refine pA h (fun x ha hb hx h=>?_) | with_reducible refine pB h (fun x hb h=>?_)
    | refine pG h (fun hp h=>?_)
    | fail
theorem ZRB (q0:Sq 206 ZEs) (q2:Sq 128 ZBT) (q1:Sq 207 ZCX) (q3:Sq 208 ZDZ):Sq 122 ZDq:=by
 refine Zf Xa (Zd q0 (Zd q2 (Zd q1 (Zd q3 Zk)))) mixed {loops:=[(0,[.reg 11 (.dat Iq),.cello 1003 0 (.ol 277 (Zoy))]),(2,[.reg 30 (.dat Iq),.splt 7 289 Zxz])],draws:=[(5,[0,1,3,0,8,31,31,127,255,511],.op 0 (.op 1 (.op 3 (.op 4 (.alt 2 (.op 6 (.alt 5 (.alt 7 (.op 8 (.alt 9 (.done) (.done))) (.done)) (.done))) (.done)))))),(10,[0,1,0,0,8,0,0,64,192,0,512,1984,4039,8135,16327,32767,65535,131071],.op 0 (.op 1 (.op 2 (.op 3 (.op 5 (.op 6 (.op 7 (.op 9 (.op 10 (.alt 4 (.alt 8 (.alt 11 (.op 12 (.op 13 (.alt 14 (.op 15 (.op 16 (.alt 17 (.done) (.done)))) (.done)))) (.done)) (.done)) (.alt 8 (.alt 4 (.alt 11 (.op 12 (.op 13 (.alt 14 (.op 15 (.op 16 (.alt 17 (.done) (.done)))) (.done)))) (.done)) (.alt 11 (.op 12 (.op 13 (.alt 4 (.alt 14 (.op 15 (.op 16 (.alt 17 (.done) (.done)))) (.done)) (.alt 14 (.alt 4 (.op 15 (.op 16 (.alt 17 (.done) (.done)))) (.done)) (.done))))) (.done))) (.done))))))))))))]} (fn:=Tryz.f122) Tryz.func122 (by kernel_rfl) (by kernel_rfl) ?_
 rintro ⟨l0,⟨⟩⟩ K ⟨r,h,hK⟩
 change Vq l0=some r at h
 unfold Vq at h
 conv=>whnf
 refine ZyY h ?_
 rintro I0 μ0 ⟨v0,c0,⟨⟩⟩ zs0 h hI0 hR0
 change XC l0 v0 c0=some zs0 at h
 unfold XC at h
 conv=>whnf
 intro fp1
 conv=>whnf
 refine ZsV h (fun h=>?_) (fun h=>?_)
 conv=>whnf
 refine vAt h (fun x0 he2a he2b he2x h=>?_)
 conv=>whnf
 refine ⟨by kernel_rfl,?_⟩
 conv=>whnf
 refine Zc5 h (fun Pin0 hb3 h=>?_)
 conv=>whnf
 refine Zc5 h (fun int64_0 hb4 h=>?_)
 conv=>whnf
 refine ⟨trivial,?_⟩
 conv=>whnf
 refine Zc5 h (fun Arc0 hb5 h=>?_)
 conv=>whnf
 refine ZyY h ?_
 rintro I6 μ6 ⟨v1,l1,⟨⟩⟩ zs6 h hI6 hR6
 change Qi v0 c0 x0 Pin0 int64_0 Arc0 v1 l1=some zs6 at h
 unfold Qi at h
 conv=>whnf
 intro fp7
 conv=>whnf
 refine ZsV h (fun h=>?_) (fun h=>?_)
 focus
  conv=>whnf
  refine vAt h (fun x1 he8a he8b he8x h=>?_)
  conv=>whnf
  refine ZpS h (fun hp9 h=>?_)
  conv=>whnf
  refine ⟨he8a,he8b,QO he8x ?_⟩
  conv=>whnf
  refine ⟨by kernel_rfl,?_⟩
  conv=>whnf
  obtain ⟨cloneTables0,hb10,h⟩:=Option.bind_eq_some_iff.1 h
  obtain ⟨cloneTables1,hb12,h⟩:=Option.bind_eq_some_iff.1 h
  obtain ⟨hp14,h⟩:=guardE h
  obtain ⟨x2,he15a,he15b,he15x,h⟩:=atE h
  refine ⟨?_,?_⟩
  rotate_left
  focus
   conv=>whnf
   refine ⟨_,hb10,?_⟩
   conv=>whnf
   intro fp16
   conv=>whnf
   refine ⟨?_,?_⟩
   rotate_left
   focus
    conv=>whnf
    refine ⟨_,hb12,?_⟩
    conv=>whnf
    intro fp17
    conv=>whnf
    refine ⟨he8a,he8b,QO he8x ?_⟩
    conv=>whnf
    refine ⟨?_,?_⟩
    rotate_left
    focus
     conv=>whnf
     refine ⟨hp14,?_⟩
     conv=>whnf
     refine ⟨he15a,he15b,QO he15x ?_⟩
     conv=>whnf
     refine ⟨he8a,he8b,QO he8x ?_⟩
     conv=>whnf
     refine ⟨hp14,?_⟩
     conv=>whnf
     refine ⟨trivial,?_⟩
    rotate_right
    focus
     conv=>whnf
     refine ⟨hp14,?_⟩
     conv=>whnf
     refine ⟨he15a,he15b,QO he15x ?_⟩
     conv=>whnf
     refine ⟨he8a,he8b,QO he8x ?_⟩
     conv=>whnf
     refine ⟨hp14,?_⟩
     conv=>whnf
     refine ⟨trivial,?_⟩
   rotate_right
   focus
    conv=>whnf
    refine ⟨_,hb12,?_⟩
    conv=>whnf
    intro fp17
    conv=>whnf
    refine ⟨he8a,he8b,QO he8x ?_⟩
    conv=>whnf
    refine ⟨hp14,?_⟩
    conv=>whnf
    refine ⟨he15a,he15b,QO he15x ?_⟩
    conv=>whnf
    refine ⟨he8a,he8b,QO he8x ?_⟩
    conv=>whnf
    refine ⟨hp14,?_⟩
    conv=>whnf
    refine ⟨trivial,?_⟩
  rotate_right
  focus
   conv=>whnf
   refine ⟨_,hb10,?_⟩
   conv=>whnf
   intro fp16
   conv=>whnf
   refine ⟨_,hb12,?_⟩
   conv=>whnf
   intro fp17
   conv=>whnf
   refine ⟨he8a,he8b,QO he8x ?_⟩
   conv=>whnf
   refine ⟨hp14,?_⟩
   conv=>whnf
   refine ⟨he15a,he15b,QO he15x ?_⟩
   conv=>whnf
   refine ⟨he8a,he8b,QO he8x ?_⟩
   conv=>whnf
   refine ⟨hp14,?_⟩
   conv=>whnf
   refine ⟨trivial,?_⟩
  all_goals
   conv=>whnf
   cases h
   exact ⟨⟨rfl,rfl⟩,hI6 _ rfl⟩
 conv=>whnf
 refine ZpS h (fun hp18 h=>?_)
 conv=>whnf
 intro fp19
 conv=>whnf
 refine ZpS h (fun hp20 h=>?_)
 conv=>whnf
 intro fp21
 conv=>whnf
 cases h
 obtain rfl:=hR6 _ rfl
 exact ⟨⟨rfl,rfl⟩,hI0 _ rfl⟩
 conv=>whnf
 cases h
 obtain rfl:=hR0 _ rfl
 exact hK
end Go.Proofs.YthkhedimjmkifaaGreatDoor
