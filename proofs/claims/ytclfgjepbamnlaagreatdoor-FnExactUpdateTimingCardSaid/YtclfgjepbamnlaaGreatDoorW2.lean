/-
  The functions keep their contracts, if what they call does. Printed by program.
-/
import Derived.Test.YtclfgjepbamnlaaGreatDoorM
import Derived.KernelRfl
namespace Go.Proofs.YtclfgjepbamnlaaGreatDoor
open Go Go.Sx
set_option maxRecDepth 100000
set_option maxHeartbeats 6400000
set_option linter.unusedVariables false
set_option linter.unusedSimpArgs false
structure Ws2:Prop where
 w218:Sq 369 ZzG→Sq 335 c218
 w168:Sq 263 c167→Sq 189 c168
 w141:Sq 374 Zy3→Sq 375 Zy4→Sq 347 c141
 w132:Sq 402 Zxk
 w145:Sq 375 Zy6→Sq 378 c145
 w146:Sq 377 Zy1→Sq 135 ZyU→Sq 378 c145→Sq 348 c146
 w171:Sq 264 c171
 w161:Sq 163 Zzc
 w164:Sq 185 c160→Sq 163 Zzc→Sq 186 Zzd→Sq 108 c164
 w157:Sq 259 c157
 w181:Sq 220 Zyh→Sq 142 Zzl
 w163:Sq 190 c119→Sq 217 ZyO→Sq 260 c162→Sq 135 ZyU→Sq 186 Zzd
 w213:Sq 204 c213
 w223:Sq 315 ZzJ→Sq 270 c222→Sq 269 ZzK
 w234:Sq 53 Zzw→Sq 69 c198→Sq 70 c201→Sq 71 c233→Sq 27 c234
 w128:Sq 399 ZyW→Sq 400 c127→Sq 398 ZyX
 w123:Sq 140 ZyT→Sq 135 ZyU
 w222:Sq 270 c222
 w232:Sq 117 c212→Sq 118 ZzD→Sq 119 c206→Sq 120 ZzN→Sq 121 ZzO→Sq 55 c232
 w193:Sq 267 c193
 w206:Sq 198 ZzA→Sq 119 c206
 w125:Sq 190 c119→Sq 217 ZyO→Sq 135 ZyU→Sq 136 c124→Sq 405 ZyV
 w118:Sq 387 ZyS
 w182:Sq 217 ZyO→Sq 266 c182
 w179:Sq 194 Zzk
 w225:Sq 270 c222→Sq 271 ZzM
 w212:Sq 202 Zyj→Sq 117 c212
 w184:Sq 54 Zzj→Sq 193 Zxl→Sq 194 Zzk→Sq 142 Zzl→Sq 195 c183→Sq 111 Zzm
 w215:Sq 207 ZzE
 w230:Sq 206 c226→Sq 207 ZzE→Sq 208 c229→Sq 120 ZzN
 w246:Sq 274 Zyk→Sq 275 ZzX→Sq 17 ZzS→Sq 209 ZzY
 w250:Sq 210 ZvI→Sq 123 Zz0
 w240:Sq 317 ZzT
 w241:Sq 317 ZzT→Sq 274 Zyk
 w253:Sq 211 Zz2→Sq 125 Zz3
 w258:Sq 126 c236→Sq 59 Zz8
 w236:Sq 126 c236
 w251:Sq 124 Zz1
 w242:Sq 17 ZzS→Sq 383 ZzU
 w238:Sq 60 ZzP→Sq 61 ZzQ→Sq 20 ZzR
 w266:Sq 127 ZGh→Sq 62 ZGi
 w263:Sq 22 ZAc→Sq 276 ZAd
 w5:Sq 340 c4→Sq 294 c5
 w6:Sq 294 c5→Sq 241 c6
 w18:Sq 35 c9→Sq 36 c15→Sq 37 c17→Sq 6 c18
 w7:Sq 240 c1→Sq 241 c6→Sq 143 c2→Sq 171 c7
 w2:Sq 143 c2
 w14:Sq 173 c13→Sq 89 c14
 w3:Sq 143 c2→Sq 370 c3
 w4:Sq 370 c3→Sq 340 c4
 w23:Sq 38 c21→Sq 39 c22→Sq 9 c23
 w29:Sq 345 c28→Sq 301 c29
 w30:Sq 301 c29→Sq 253 c30
 w42:Sq 47 c33→Sq 48 c39→Sq 49 c41→Sq 11 c42
 w47:Sq 51 c47
 w25:Sq 300 c24→Sq 252 c25
 w37:Sq 184 c37
 w48:Sq 107 c44→Sq 52 c48
 w49:Sq 51 c47→Sq 52 c48→Sq 15 c49
 w41:Sq 79 c40→Sq 49 c41
 w67:Sq 174 c63→Sq 97 c65→Sq 175 c66→Sq 90 c67
 w60:Sq 295 c59→Sq 242 c60
 w84:Sq 179 c79→Sq 41 c77→Sq 43 c69→Sq 42 c82→Sq 215 c83→Sq 132 c84
 w96:Sq 297 c94→Sq 249 c95→Sq 246 c96
 w57:Sq 176 c51→Sq 371 c56→Sq 342 c57
 w99:Sq 298 c98→Sq 249 c95→Sq 247 c99
 w75:Sq 98 c74→Sq 94 c75
 w77:Sq 95 c73→Sq 94 c75→Sq 96 c76→Sq 97 c65→Sq 98 c74→Sq 41 c77
 w74:Sq 98 c74
 w108:Sq 45 Zqk
set_option maxHeartbeats 100000000 in
theorem ws2:Ws2:=by
 refine ⟨(fun q0=>Ze Zl (Zb q0 Zf) mixed {} Tryz.func335 (hvc:=?_)),
 (fun q0=>Ze Zl (Zb q0 Zf) mixed {loops:=[(0,[.reg 7 (.own (.ol 183 (.flat (JY)))),.reg 21 (.dat Iq)]),(2,[.reg 7 (.own (.ol 183 (.flat (JY)))),.reg 29 (.dat Iq)])]} Tryz.func189 (hvc:=?_)),
 (fun q1 q0=>Ze Zl (Zb q1 (Zb q0 Zf)) mixed {loops:=[(0,[.reg 8 (.dat Iq)])]} Tryz.func347 (hvc:=?_)),
 (Ze Zl Zf mixed {} Tryz.func402 (hvc:=?_)),
 (fun q0=>Ze Zl (Zb q0 Zf) mixed {} Tryz.func378 (hvc:=?_)),
 (fun q0 q1 q2=>Ze Zl (Zb q0 (Zb q1 (Zb q2 Zf))) mixed {loops:=[(0,[.reg 3 (.dat Iq),.reg 9 (.dat Iq)])],draws:=[(10,[0,1,3,7,15,31,7,71,199,511,1023,2047,4095,8191,16383,32767,65535],.op 0 (.op 1 (.op 2 (.op 3 (.op 4 (.op 5 (.op 6 (.alt 7 (.op 8 (.op 9 (.op 10 (.op 11 (.op 12 (.op 13 (.alt 14 (.op 15 (.op 16 (.done))) (.done)))))))) (.done))))))))),(12,[0,1,3,7,15,31,63,127,255,511,1023,2047,4095,8191,16383,32767,16383,131071,262143,524287,1048575],.op 0 (.op 1 (.op 2 (.op 3 (.op 4 (.op 5 (.op 6 (.op 7 (.op 8 (.op 9 (.alt 10 (.op 11 (.op 12 (.op 13 (.op 14 (.op 16 (.alt 15 (.alt 17 (.op 18 (.op 19 (.op 20 (.done)))) (.done)) (.done))))))) (.done))))))))))))]} Tryz.func348 (hvc:=?_)),
 (Ze Zl Zf mixed {draws:=[(3,[0,1,0,4,0,16,60,124,252,511,1023,2047,0,4096,16383,32767,65535,131071],.op 0 (.op 1 (.op 2 (.op 3 (.op 4 (.op 5 (.op 6 (.op 7 (.op 8 (.op 9 (.op 10 (.op 11 (.op 12 (.op 13 (.op 14 (.op 15 (.op 16 (.op 17 (.done)))))))))))))))))))]} Tryz.func264 (hvc:=?_)),
 (Ze Zl Zf mixed {loops:=[(0,[.reg 3 (.own (.ol 199 (.flat (ZiJ)))),.reg 13 (.dat Iq)]),(2,[.reg 3 (.own (.ol 199 (.flat (ZiJ)))),.reg 21 (.dat Iq)]),(4,[.reg 3 (.own (.ol 199 (.flat (ZiJ)))),.reg 44 (.dat Iq)])]} Tryz.func163 (hvc:=?_)),
 (fun q1 q0 q2=>Ze Zl (Zb q1 (Zb q0 (Zb q2 Zf))) mixed {loops:=[(0,[.reg 32 (.dat Iq),.ent 1 (nat_lit 2) (.flat Zum.ety)]),(2,[.reg 50 (.dat Iq)])],draws:=[(13,[0,0,0,6,14,31,63],.op 0 (.op 1 (.op 2 (.op 3 (.op 4 (.alt 5 (.op 6 (.done)) (.done)))))))]} Tryz.func108 (hvc:=?_)),
 (Ze Zl Zf mixed {} Tryz.func259 (hvc:=?_)),
 (fun q0=>Ze Zl (Zb q0 Zf) mixed {} Tryz.func142 (hvc:=?_)),
 (fun q0 q3 q1 q2=>Ze Zl (Zb q0 (Zb q3 (Zb q1 (Zb q2 Zf)))) mixed {} Tryz.func186 (hvc:=?_)),
 (Ze Zl Zf mixed {} Tryz.func204 (hvc:=?_)),
 (fun q0 q1=>Ze Zl (Zb q0 (Zb q1 Zf)) mixed {loops:=[(0,[.reg 13 (.dat Iq),.reg 34 (.dat Iq)]),(2,[.reg 13 (.dat Iq),.reg 40 (.dat Iq)])],draws:=[(10,[0,0,2,0,8,0,32,96,248,0,512,2040,4094,8190,0,16384,65534,0,131072,524286,1048575,2097151],.op 0 (.op 1 (.op 2 (.op 3 (.op 4 (.op 5 (.op 6 (.op 7 (.op 8 (.op 9 (.op 10 (.op 11 (.op 12 (.op 13 (.op 14 (.op 15 (.op 16 (.op 17 (.op 18 (.op 19 (.op 20 (.op 21 (.done)))))))))))))))))))))))]} Tryz.func269 (hvc:=?_)),
 (fun q3 q0 q1 q2=>Ze Zl (Zb q3 (Zb q0 (Zb q1 (Zb q2 Zf)))) mixed {} Tryz.func27 (hvc:=?_)),
 (fun q1 q0=>Ze Zl (Zb q1 (Zb q0 Zf)) mixed {} Tryz.func398 (hvc:=?_)),
 (fun q0=>Ze Zl (Zb q0 Zf) mixed {} Tryz.func135 (hvc:=?_)),
 (Ze Zl Zf mixed {draws:=[(1,[0,0,3,0,0,24,7,127],.op 0 (.op 1 (.op 2 (.op 3 (.op 4 (.op 5 (.op 6 (.op 7 (.done)))))))))]} Tryz.func270 (hvc:=?_)),
 (fun q3 q0 q4 q1 q2=>Ze Zl (Zb q3 (Zb q0 (Zb q4 (Zb q1 (Zb q2 Zf))))) mixed {loops:=[(0,[.reg 39 (.dat Iq),.cell 1012 0 Iq,.cell 1012 1 Iq,.cell 1012 2 Iq,.cell 1012 3 Iq,.cell 1012 4 Iq,.cell 1013 0 (.bool)])],draws:=[(11,[0,1,3,7,0,0,0,64,0,448,960,2047,4095,8191,8191,0,0,114687,262143],.op 0 (.op 1 (.op 2 (.op 3 (.op 4 (.op 5 (.op 6 (.op 7 (.op 8 (.op 9 (.op 10 (.alt 11 (.op 12 (.op 13 (.op 14 (.alt 15 (.alt 16 (.alt 17 (.alt 18 (.done) (.done)) (.done)) (.done)) (.alt 16 (.alt 15 (.alt 17 (.alt 18 (.done) (.done)) (.done)) (.done)) (.done)))))) (.alt 15 (.alt 11 (.op 12 (.op 13 (.op 14 (.alt 16 (.alt 17 (.alt 18 (.done) (.done)) (.done)) (.done))))) (.alt 16 (.alt 11 (.op 12 (.op 13 (.op 14 (.alt 17 (.alt 18 (.done) (.done)) (.done))))) (.done)) (.done))) (.alt 16 (.alt 11 (.op 12 (.op 13 (.op 14 (.alt 15 (.alt 17 (.alt 18 (.done) (.done)) (.done)) (.done))))) (.alt 15 (.alt 11 (.op 12 (.op 13 (.op 14 (.alt 17 (.alt 18 (.done) (.done)) (.done))))) (.done)) (.done))) (.done))))))))))))))),(12,[0,1,0,7,15,0,63,0,255],.op 0 (.op 1 (.op 2 (.op 3 (.op 4 (.op 5 (.op 7 (.alt 6 (.alt 8 (.done) (.done)) (.done))))))))),(16,[0,0,3],.op 0 (.op 1 (.alt 2 (.done) (.done))))]} Tryz.func55 (hvc:=?_)),
 (Ze Zl Zf mixed {} Tryz.func267 (hvc:=?_)),
 (fun q0=>Ze Zl (Zb q0 Zf) mixed {} Tryz.func119 (hvc:=?_)),
 (fun q0 q3 q2 q1=>Ze Zl (Zb q0 (Zb q3 (Zb q2 (Zb q1 Zf)))) mixed {} Tryz.func405 (hvc:=?_)),
 (Ze Zl Zf mixed {} Tryz.func387 (hvc:=?_)),
 (fun q0=>Ze Zl (Zb q0 Zf) mixed {} Tryz.func266 (hvc:=?_)),
 (Ze Zl Zf mixed {} Tryz.func194 (hvc:=?_)),
 (fun q0=>Ze Zl (Zb q0 Zf) mixed {} Tryz.func271 (hvc:=?_)),
 (fun q0=>Ze Zl (Zb q0 Zf) mixed {} Tryz.func117 (hvc:=?_)),
 (fun q2 q1 q0 q4 q3=>Ze Zl (Zb q2 (Zb q1 (Zb q0 (Zb q4 (Zb q3 Zf))))) mixed {loops:=[(0,[.reg 32 (.dat Iq)])]} Tryz.func111 (hvc:=?_)),
 (Ze Zl Zf mixed {draws:=[(1,[0,1,3,7,0,16,48,127,255,511,1023],.op 0 (.op 1 (.op 2 (.op 3 (.op 4 (.op 5 (.op 6 (.op 7 (.op 8 (.op 9 (.op 10 (.done))))))))))))]} Tryz.func207 (hvc:=?_)),
 (fun q0 q1 q2=>Ze Zl (Zb q0 (Zb q1 (Zb q2 Zf))) mixed {draws:=[(1,[0,1,0,4,3,31],.op 0 (.op 1 (.op 2 (.op 3 (.op 4 (.op 5 (.done))))))),(2,[0,0,0,0,15,0,0,0,0,511,1023,0,0,0,0,31743,0,0,0,0,1047551,2096127,4194303,0,16777215],.op 0 (.op 1 (.op 2 (.op 3 (.op 5 (.op 6 (.op 7 (.op 8 (.op 11 (.op 12 (.op 13 (.op 14 (.op 16 (.op 17 (.op 18 (.op 19 (.alt 4 (.alt 9 (.op 10 (.alt 15 (.alt 20 (.op 21 (.op 22 (.alt 23 (.alt 24 (.done) (.done)) (.done)))) (.alt 23 (.alt 20 (.op 21 (.op 22 (.alt 24 (.done) (.done)))) (.done)) (.done))) (.alt 23 (.alt 15 (.alt 20 (.op 21 (.op 22 (.alt 24 (.done) (.done)))) (.done)) (.done)) (.done)))) (.alt 23 (.alt 9 (.op 10 (.alt 15 (.alt 20 (.op 21 (.op 22 (.alt 24 (.done) (.done)))) (.done)) (.done))) (.done)) (.done))) (.alt 23 (.alt 4 (.alt 9 (.op 10 (.alt 15 (.alt 20 (.op 21 (.op 22 (.alt 24 (.done) (.done)))) (.done)) (.done))) (.done)) (.done)) (.done))))))))))))))))))),(5,[0,1,3,7,0,0,48,127,255,511],.op 0 (.op 1 (.op 2 (.op 3 (.op 4 (.op 5 (.alt 6 (.op 7 (.op 8 (.op 9 (.done)))) (.done)))))))),(8,[0,0,1,7],.op 0 (.alt 1 (.alt 2 (.alt 3 (.done) (.done)) (.done)) (.alt 2 (.alt 1 (.alt 3 (.done) (.done)) (.done)) (.done))))]} Tryz.func120 (hvc:=?_)),
 (fun q1 q2 q0=>Ze Zl (Zb q1 (Zb q2 (Zb q0 Zf))) mixed {} Tryz.func209 (hvc:=?_)),
 (fun q0=>Ze Zl (Zb q0 Zf) mixed {loops:=[(0,[.reg 5 (.dat Iq)])],draws:=[(6,[0,0,3,7,0,0,48,112,255,511],.op 0 (.op 1 (.op 2 (.op 3 (.op 4 (.op 5 (.op 6 (.op 7 (.alt 8 (.op 9 (.done)) (.done))))))))))]} Tryz.func123 (hvc:=?_)),
 (Ze Zl Zf mixed {} Tryz.func317 (hvc:=?_)),
 (fun q0=>Ze Zl (Zb q0 Zf) mixed {loops:=[(0,[.reg 5 (.dat Iq)])],draws:=[(6,[0,0,3,7,0,0,48,112,255,511],.op 0 (.op 1 (.op 2 (.op 3 (.op 4 (.op 5 (.op 6 (.op 7 (.alt 8 (.op 9 (.done)) (.done))))))))))]} Tryz.func274 (hvc:=?_)),
 (fun q0=>Ze Zl (Zb q0 Zf) mixed {loops:=[(0,[.reg 5 (.dat Iq)])],draws:=[(6,[0,0,3,7,0,0,48,112,255,511],.op 0 (.op 1 (.op 2 (.op 3 (.op 4 (.op 5 (.op 6 (.op 7 (.alt 8 (.op 9 (.done)) (.done))))))))))]} Tryz.func125 (hvc:=?_)),
 (fun q0=>Ze Zl (Zb q0 Zf) mixed {} Tryz.func59 (hvc:=?_)),
 (Ze Zl Zf mixed {} Tryz.func126 (hvc:=?_)),
 (Ze Zl Zf mixed {loops:=[(0,[.reg 5 (.dat Iq)])],draws:=[(6,[0,0,3,7,0,0,48,112,255],.op 0 (.op 1 (.op 2 (.op 3 (.op 4 (.op 5 (.op 6 (.op 7 (.op 8 (.done))))))))))]} Tryz.func124 (hvc:=?_)),
 (fun q0=>Ze Zl (Zb q0 Zf) mixed {} Tryz.func383 (hvc:=?_)),
 (fun q0 q1=>Ze Zl (Zb q0 (Zb q1 Zf)) mixed {} Tryz.func20 (hvc:=?_)),
 (fun q0=>Ze XK (Zb q0 Zf) mixed {} Tryz.func62 (hvc:=?_)),
 (fun q0=>Ze XK (Zb q0 Zf) mixed {loops:=[(0,[.reg 1 (.dat Iq),.reg 5 (.dat Iq),.ent 0 (nat_lit 317) (Dp.pair (Dp.ol (2:Go.TypeId) (Dp.flat (Ty.int IntKind.i64))) (Dp.pair (Dp.ol (2:Go.TypeId) (Dp.flat (Ty.int IntKind.i64))) (Dp.pair (Dp.ol (2:Go.TypeId) (Dp.flat (Ty.int IntKind.i64))) (Dp.flat Ty.unit))))])]} Tryz.func276 (hvc:=?_)),
 (fun q0=>Ze Zl (Zb q0 Zf) mixed {} Tryz.func294 (hvc:=?_)),
 (fun q0=>Ze Zl (Zb q0 Zf) mixed {loops:=[(0,[.reg 1 (.dat Iq),.reg 5 (.dat Iq)])]} Tryz.func241 (hvc:=?_)),
 (fun q0 q1 q2=>Ze Zl (Zb q0 (Zb q1 (Zb q2 Zf))) mixed {} Tryz.func6 (hvc:=?_)),
 (fun q1 q2 q0=>Ze Zl (Zb q1 (Zb q2 (Zb q0 Zf))) mixed {} Tryz.func171 (hvc:=?_)),
 (Ze Zl Zf mixed {} Tryz.func143 (hvc:=?_)),
 (fun q0=>Ze Zl (Zb q0 Zf) mixed {loops:=[(0,[.reg 1 (.dat Iq),.reg 5 (.dat Iq)])]} Tryz.func89 (hvc:=?_)),
 (fun q0=>Ze Zl (Zb q0 Zf) mixed {} Tryz.func370 (hvc:=?_)),
 (fun q0=>Ze Zl (Zb q0 Zf) mixed {loops:=[(0,[.reg 1 (.dat Iq),.reg 5 (.dat Iq)])]} Tryz.func340 (hvc:=?_)),
 (fun q0 q1=>Ze Zl (Zb q0 (Zb q1 Zf)) mixed {} Tryz.func9 (hvc:=?_)),
 (fun q0=>Ze XK (Zb q0 Zf) mixed {} Tryz.func301 (hvc:=?_)),
 (fun q0=>Ze XK (Zb q0 Zf) mixed {loops:=[(0,[.reg 4 (.dat Iq),.ent 0 (nat_lit 173) Zuk])]} Tryz.func253 (hvc:=?_)),
 (fun q0 q1 q2=>Ze XK (Zb q0 (Zb q1 (Zb q2 Zf))) mixed {} Tryz.func11 (hvc:=?_)),
 (Ze Zl Zf mixed {loops:=[(0,[.reg 4 (.dat Iq),.ent 0 (nat_lit 4) (.flat Zvy.ety)])]} Tryz.func51 (hvc:=?_)),
 (fun q0=>Ze Zl (Zb q0 Zf) mixed {loops:=[(0,[.reg 4 (.dat Iq),.ent 0 (nat_lit 340) (.flat Zvf.ety)])]} Tryz.func252 (hvc:=?_)),
 (Ze Zl Zf mixed {} Tryz.func184 (hvc:=?_)),
 (fun q0=>Ze Zl (Zb q0 Zf) mixed {loops:=[(0,[.reg 4 (.dat Iq),.ent 0 (nat_lit 103) (.flat ZyB.ety)])]} Tryz.func52 (hvc:=?_)),
 (fun q0 q1=>Ze Zl (Zb q0 (Zb q1 Zf)) mixed {} Tryz.func15 (hvc:=?_)),
 (fun q0=>Ze XK (Zb q0 Zf) mixed {loops:=[(0,[.reg 4 (.dat Iq),.ent 0 (nat_lit 85) Znq])]} Tryz.func49 (hvc:=?_)),
 (fun q0 q1 q2=>Ze Zl (Zb q0 (Zb q1 (Zb q2 Zf))) mixed {loops:=[(0,[.reg 3 (.dat Iq)])],draws:=[(6,[0,1,0,7,15,0,32,0,224,480,1023,2047],.op 0 (.op 1 (.op 2 (.op 3 (.op 4 (.op 5 (.op 6 (.op 7 (.alt 8 (.op 9 (.alt 10 (.op 11 (.done)) (.done))) (.done))))))))))]} Tryz.func90 (hvc:=?_)),
 (fun q0=>Ze Zl (Zb q0 Zf) mixed {loops:=[(0,[.reg 3 (.dat Iq)]),(2,[.reg 4 (.dat Iq)])],draws:=[(9,[0,1,0,7,15,31,0,64,0,448,960,1984,4095],.op 0 (.op 1 (.op 2 (.op 3 (.op 4 (.op 5 (.op 6 (.op 7 (.op 8 (.op 9 (.op 10 (.op 11 (.op 12 (.done))))))))))))))]} Tryz.func242 (hvc:=?_)),
 (fun q3 q0 q1 q4 q2=>Ze Zl (Zb q3 (Zb q0 (Zb q1 (Zb q4 (Zb q2 Zf))))) mixed {} Tryz.func132 (hvc:=?_)),
 (fun q0 q1=>Ze Zl (Zb q0 (Zb q1 Zf)) mixed {loops:=[(0,[.reg 16 (.dat Iq),.reg 17 (.dat Iq)]),(2,[.reg 16 (.dat Iq),.reg 18 (.dat Iq)])]} Tryz.func246 (hvc:=?_)),
 (fun q1 q0=>Ze Zl (Zb q1 (Zb q0 Zf)) mixed {} Tryz.func342 (hvc:=?_)),
 (fun q0 q1=>Ze Zl (Zb q0 (Zb q1 Zf)) mixed {loops:=[(0,[.reg 8 (.own (.ol 2 (.flat Iq))),.reg 9 (.dat Iq)])]} Tryz.func247 (hvc:=?_)),
 (fun q0=>Ze XK (Zb q0 Zf) mixed {loops:=[(0,[.reg 0 (.own (.ol 183 (.flat (JY)))),.reg 11 (.dat Iq)]),(2,[.reg 0 (.own (.ol 183 (.flat (JY)))),.reg 12 (.dat Iq)])]} Tryz.func94 (hvc:=?_)),
 (fun q2 q4 q0 q1 q3=>Ze Zl (Zb q2 (Zb q4 (Zb q0 (Zb q1 (Zb q3 Zf))))) mixed {loops:=[(0,[.reg 3 (.own (.ol 183 (.flat (JY)))),.reg 5 (.dat Iq)]),(2,[.reg 3 (.own (.ol 183 (.flat (JY)))),.reg 7 (.dat Iq)]),(4,[.reg 3 (.own (.ol 183 (.flat (JY)))),.reg 8 (.dat Iq)]),(6,[.reg 3 (.own (.ol 183 (.flat (JY)))),.reg 11 (.dat Iq)])],draws:=[(6,[0,1,3,0,8,0,56,120,248,511,1023,2047,4095],.op 0 (.op 1 (.op 2 (.op 3 (.op 4 (.op 5 (.op 6 (.op 7 (.op 8 (.op 9 (.op 10 (.op 11 (.op 12 (.done)))))))))))))),(11,[0,0,0,6,14,0,0,0,0,384,896,1920,4064,0,0,0,0,98304,229376,491520,1048544,0,4194303,8388607],.op 0 (.op 1 (.op 2 (.op 3 (.op 4 (.op 5 (.op 6 (.op 7 (.op 8 (.op 9 (.op 10 (.op 11 (.op 13 (.op 14 (.op 15 (.op 16 (.op 17 (.op 18 (.op 19 (.op 21 (.alt 12 (.alt 20 (.alt 22 (.op 23 (.done)) (.done)) (.done)) (.done))))))))))))))))))))))]} Tryz.func41 (hvc:=?_)),
 (Ze XK Zf mixed {} Tryz.func98 (hvc:=?_)),
 (Ze XK Zf mixed {draws:=[(3,[0,1,0,7,15,0,63,127,255,511,255,2047,4095,255,8447,32767,65535,131071,262143,524287,262143,2097151,4194303,262143,8650751,33554431,67108863,134217727],.op 0 (.op 1 (.op 2 (.op 3 (.op 4 (.op 5 (.op 6 (.op 7 (.op 8 (.op 9 (.op 10 (.op 11 (.op 12 (.op 13 (.op 14 (.op 15 (.op 16 (.op 17 (.op 18 (.op 19 (.op 20 (.op 21 (.op 22 (.op 23 (.op 24 (.op 25 (.op 26 (.op 27 (.done)))))))))))))))))))))))))))))]} Tryz.func45 (hvc:=?_))⟩
 all_goals
  intro a
  repeat rcases a with ⟨_,a⟩
  rintro K ⟨r,h,hK⟩
  repeat'
    conv=>whnf
    first
    | with_reducible refine Ztc ?_
    | with_reducible refine Zfq (by assumption) (by assumption) (by assumption) ?_
    | with_reducible refine ZhT (by assumption) ?_
    | with_reducible refine Zfr (by assumption) ?_
    | (with_reducible refine shD ?_);first | refine Zpf h (fun h=>?_) (fun h=>?_) | refine ZsB h (fun h=>?_) (fun h=>?_)
    | (with_reducible refine ZtW ?_);first | refine Zun ?_ | refine Zkg ?_
    | (with_reducible refine ZxM ?_);first | refine ZrY h (fun h=>?_) (fun h=>?_) | refine Zub h (fun h=>?_) (fun h=>?_)
    | (with_reducible refine ZtV ?_);(refine ⟨fun hd=>?_,?_⟩)<;>try subst hd
    | (with_reducible refine ZxO ?_);first | with_reducible refine Zbe h (fun x hb h=>?_) | refine Zfr (by assumption) ?_ | with_reducible refine pG h (fun hp h=>?_) | with_reducible refine pA h (fun x ha hb hx h=>?_) | with_reducible refine pB h (fun x hb h=>?_) | refine Zbe h (fun x hb h=>?_)
    | (with_reducible refine ZxL ?_);first | with_reducible refine vAt h (fun x ha hb hx h=>?_) | refine Zfq (by assumption) (by assumption) (by assumption) ?_ | with_reducible refine pG h (fun hp h=>?_) | with_reducible refine pA h (fun x ha hb hx h=>?_) | with_reducible refine pB h (fun x hb h=>?_) | refine vAt h (fun x ha hb hx h=>?_)
    | (with_reducible refine ZtU ?_);first | with_reducible refine ZnZ h (fun x hb h=>?_) | refine ZhT (by assumption) ?_ | with_reducible refine pG h (fun hp h=>?_) | with_reducible refine pA h (fun x ha hb hx h=>?_) | with_reducible refine pB h (fun x hb h=>?_) | refine ZnZ h (fun x hb h=>?_)
    | with_reducible refine ZxN ?_
    | (with_reducible refine Zp0 ?_);refine Zqi h hK ?_;clear h hK;intro I μ v r h hK;(repeat rcases v with ⟨_,v⟩);(try dsimp only at h)
    | with_reducible refine ⟨by assumption,?_⟩
    | with_reducible refine orL ?_
    | with_reducible refine .inr ?_
    | (with_reducible refine ZtX ?_);first | refine ⟨?_,True.intro⟩ | refine ⟨?_,?_⟩
    | refine ⟨by kernel_rfl,?_⟩
    | refine ⟨by decide,?_⟩
    | with_reducible refine Zuo h (fun hp h=>?_)
    | intro fp
    | exact trivial
    | with_reducible exact Zs5 h
    | (refine pS h (fun e=>?_));subst e;(repeat (first | exact hK | exact ⟨⟨rfl,rfl⟩,hK.1 _ rfl⟩ | (refine pR hK (fun e hK=>?_));subst e));done
    | refine Zuo h (fun hp h=>?_)
    | refine ⟨by assumption,?_⟩
    | with_reducible refine pG h (fun hp h=>?_) | with_reducible refine pA h (fun x ha hb hx h=>?_) | with_reducible refine pB h (fun x hb h=>?_)
    | refine pG h (fun hp h=>?_)
    | fail
theorem ZGO:Sq 218 Zzz:=by
 refine Ze Zl Zf mixed {loops:=[(0,[.reg 8 (.dat Iq)])]} (fn:=Tryz.f218) Tryz.func218 (by kernel_rfl) (by kernel_rfl) ?_
 rintro ⟨s0,v0,⟨⟩⟩ K ⟨r,h,hK⟩
 change ZEb s0 v0=some r at h
 unfold ZEb at h
 conv=>whnf
 refine ZBg h ?_
 rintro I0 μ0 ⟨v1,⟨⟩⟩ zs0 h hI0 hR0
 change ZD9 s0 v0 v1=some zs0 at h
 unfold ZD9 at h
 conv=>whnf
 refine Zpf h (fun h=>?_) (fun h=>?_)
 conv=>whnf
 refine vAt h (fun x0 he1a he1b he1x h=>?_)
 conv=>whnf
 refine Zpf h (fun h=>?_) (fun h=>?_)
 conv=>whnf
 cases h
 obtain rfl:=hR0 _ rfl
 exact hK
 conv=>whnf
 cases h
 exact ⟨⟨rfl,rfl⟩,hI0 _ rfl⟩
 conv=>whnf
 cases h
 obtain rfl:=hR0 _ rfl
 exact hK
end Go.Proofs.YtclfgjepbamnlaaGreatDoor
