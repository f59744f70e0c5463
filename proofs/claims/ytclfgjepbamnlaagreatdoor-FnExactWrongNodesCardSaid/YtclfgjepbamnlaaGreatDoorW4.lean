/-
  The functions keep their contracts, if what they call does. Printed by program.
-/
import Derived.Test.YtclfgjepbamnlaaGreatDoorM
import Derived.KernelRfl
namespace Go.Proofs.YtclfgjepbamnlaaGreatDoor
open Go Go.Sx
set_option maxRecDepth 100000
set_option maxHeartbeats 3200000
set_option linter.unusedVariables false
set_option linter.unusedSimpArgs false
structure Ws4:Prop where
 w206:Sq 369 ZzA→Sq 335 c206
 w165:Sq 263 c164→Sq 189 Zze
 w158:Sq 163 Zw4
 w167:Sq 163 Zw4→Sq 236 c167
 w144:Sq 187 c109→Sq 346 ZyQ→Sq 347 c138→Sq 217 Zqk→Sq 348 c143→Sq 302 Zy6
 w163:Sq 187 c109→Sq 188 c162→Sq 109 Zzd
 w159:Sq 217 Zqk→Sq 260 c159
 w221:Sq 53 c194→Sq 54 Zw5→Sq 55 ZzI→Sq 16 ZzJ
 w113:Sq 187 c109→Sq 349 ZyP→Sq 303 Zxj
 w128:Sq 397 c127→Sq 388 ZyX
 w125:Sq 399 ZyU→Sq 400 c124→Sq 398 ZyV
 w120:Sq 140 c119→Sq 135 ZvG
 w210:Sq 270 c210
 w220:Sq 117 Zzw→Sq 118 Zzx→Sq 119 Zzz→Sq 120 c218→Sq 121 ZzH→Sq 55 ZzI
 w201:Sq 205 Zzy→Sq 198 c201
 w193:Sq 54 Zw5→Sq 198 Zzq→Sq 200 Zzr→Sq 201 Zzu→Sq 115 c193
 w115:Sq 387 ZyR
 w175:Sq 193 c175
 w182:Sq 196 c182
 w116:Sq 190 c116
 w148:Sq 235 c148
 w213:Sq 270 c210→Sq 271 c213
 w204:Sq 268 Zyi
 w174:Sq 116 c173→Sq 54 Zw5
 w217:Sq 207 c203→Sq 268 Zyi→Sq 269 Zyj→Sq 273 ZzF→Sq 208 ZzG
 w218:Sq 206 ZzD→Sq 207 c203→Sq 208 ZzG→Sq 120 c218
 w240:Sq 56 ZzO→Sq 57 ZzQ→Sq 58 ZzS→Sq 18 ZzT
 w223:Sq 317 ZzK
 w241:Sq 126 Zyk
 w245:Sq 126 Zyk→Sq 61 ZzX
 w238:Sq 17 c222→Sq 84 ZzR
 w261:Sq 65 ZAb
 w252:Sq 212 ZvH→Sq 213 ZzZ→Sq 214 Zz1→Sq 22 ZvI→Sq 127 Zz2
 w253:Sq 127 Zz2→Sq 62 Zz3
 w19:Sq 7 c19
 w9:Sq 86 c8→Sq 35 c9
 w1:Sq 293 c0→Sq 240 c1
 w12:Sq 88 c12
 w4:Sq 370 c3→Sq 340 c4
 w35:Sq 183 c34→Sq 104 c35
 w24:Sq 300 c24
 w38:Sq 184 c37→Sq 106 c38
 w44:Sq 107 c44
 w156:Sq 306 Zzb→Sq 258 c156
 w111:Sq 363 ZyO
 w68:Sq 176 c51→Sq 177 c50→Sq 91 c68
 w63:Sq 242 c60→Sq 243 c61→Sq 244 c62→Sq 174 c63
 w92:Sq 249 c92
 w88:Sq 344 c88
 w89:Sq 228 c87→Sq 100 c64→Sq 97 c65→Sq 344 c88→Sq 296 c89
 w90:Sq 100 c64→Sq 296 c89→Sq 245 c90
 w97:Sq 250 c97
 w101:Sq 245 c90→Sq 246 c93→Sq 248 c94→Sq 251 ZyI→Sq 181 ZyJ
 w86:Sq 90 c67→Sq 91 c68→Sq 43 c69→Sq 92 c72→Sq 93 c85→Sq 40 c86
set_option maxHeartbeats 100000000 in
theorem ws4:Ws4:=by
 refine ⟨(fun q0=>Ze Zl (Zb q0 Zf) mixed {} Tryz.func335 (hvc:=?_)),
 (fun q0=>Ze Zl (Zb q0 Zf) mixed {loops:=[(0,[.reg 7 (.own (.ol 183 (.flat (JY)))),.reg 21 (.dat Iq)]),(2,[.reg 7 (.own (.ol 183 (.flat (JY)))),.reg 29 (.dat Iq)])]} Tryz.func189 (hvc:=?_)),
 (Ze Zl Zf mixed {loops:=[(0,[.reg 3 (.own (.ol 199 (.flat (ZiJ)))),.reg 13 (.dat Iq)]),(2,[.reg 3 (.own (.ol 199 (.flat (ZiJ)))),.reg 21 (.dat Iq)]),(4,[.reg 3 (.own (.ol 199 (.flat (ZiJ)))),.reg 44 (.dat Iq)])]} Tryz.func163 (hvc:=?_)),
 (fun q0=>Ze Zl (Zb q0 Zf) mixed {loops:=[(0,[.reg 5 (.own (.ol 2 (.flat Iq))),.reg 11 (.dat Iq)])]} Tryz.func236 (hvc:=?_)),
 (fun q3 q2 q1 q4 q0=>Ze Zl (Zb q3 (Zb q2 (Zb q1 (Zb q4 (Zb q0 Zf))))) mixed {} Tryz.func302 (hvc:=?_)),
 (fun q1 q0=>Ze Zl (Zb q1 (Zb q0 Zf)) mixed {} Tryz.func109 (hvc:=?_)),
 (fun q0=>Ze Zl (Zb q0 Zf) mixed {loops:=[(0,[.reg 8 (.dat Iq)])]} Tryz.func260 (hvc:=?_)),
 (fun q1 q2 q0=>Ze Zl (Zb q1 (Zb q2 (Zb q0 Zf))) mixed {loops:=[(0,[.reg 15 (.own (.ol 2 (.flat Iq))),.reg 36 (.dat Iq)])],draws:=[(9,[0,0,2,0,14,30,63,127,255,511,255,1279,255,7423,15615,32767,65535,131071,262143,524287,262143,1310719,262143,7602175,15990783,33554431,67108863],.op 0 (.op 1 (.op 2 (.op 3 (.op 4 (.op 5 (.op 6 (.op 7 (.op 8 (.op 9 (.op 10 (.op 11 (.op 12 (.op 13 (.op 14 (.op 15 (.op 16 (.op 17 (.op 18 (.op 19 (.op 20 (.op 21 (.op 22 (.op 23 (.op 24 (.op 25 (.op 26 (.done))))))))))))))))))))))))))))]} Tryz.func16 (hvc:=?_)),
 (fun q1 q0=>Ze Zl (Zb q1 (Zb q0 Zf)) mixed {loops:=[(0,[.reg 7 (.dat Iq)])]} Tryz.func303 (hvc:=?_)),
 (fun q0=>Ze Zl (Zb q0 Zf) mixed {} Tryz.func388 (hvc:=?_)),
 (fun q1 q0=>Ze Zl (Zb q1 (Zb q0 Zf)) mixed {} Tryz.func398 (hvc:=?_)),
 (fun q0=>Ze Zl (Zb q0 Zf) mixed {} Tryz.func135 (hvc:=?_)),
 (Ze Zl Zf mixed {draws:=[(1,[0,0,3,0,0,24,7,127],.op 0 (.op 1 (.op 2 (.op 3 (.op 4 (.op 5 (.op 6 (.op 7 (.done)))))))))]} Tryz.func270 (hvc:=?_)),
 (fun q3 q0 q4 q1 q2=>Ze Zl (Zb q3 (Zb q0 (Zb q4 (Zb q1 (Zb q2 Zf))))) mixed {loops:=[(0,[.reg 39 (.dat Iq),.cell 1012 0 Iq,.cell 1012 1 Iq,.cell 1012 2 Iq,.cell 1012 3 Iq,.cell 1012 4 Iq,.cell 1013 0 (.bool)])],draws:=[(11,[0,1,3,7,0,0,0,64,0,448,960,2047,4095,8191,8191,0,0,114687,262143],.op 0 (.op 1 (.op 2 (.op 3 (.op 4 (.op 5 (.op 6 (.op 7 (.op 8 (.op 9 (.op 10 (.alt 11 (.op 12 (.op 13 (.op 14 (.alt 15 (.alt 16 (.alt 17 (.alt 18 (.done) (.done)) (.done)) (.done)) (.alt 16 (.alt 15 (.alt 17 (.alt 18 (.done) (.done)) (.done)) (.done)) (.done)))))) (.alt 15 (.alt 11 (.op 12 (.op 13 (.op 14 (.alt 16 (.alt 17 (.alt 18 (.done) (.done)) (.done)) (.done))))) (.alt 16 (.alt 11 (.op 12 (.op 13 (.op 14 (.alt 17 (.alt 18 (.done) (.done)) (.done))))) (.done)) (.done))) (.alt 16 (.alt 11 (.op 12 (.op 13 (.op 14 (.alt 15 (.alt 17 (.alt 18 (.done) (.done)) (.done)) (.done))))) (.alt 15 (.alt 11 (.op 12 (.op 13 (.op 14 (.alt 17 (.alt 18 (.done) (.done)) (.done))))) (.done)) (.done))) (.done))))))))))))))),(12,[0,1,0,7,15,0,63,0,255],.op 0 (.op 1 (.op 2 (.op 3 (.op 4 (.op 5 (.op 7 (.alt 6 (.alt 8 (.done) (.done)) (.done))))))))),(16,[0,0,3],.op 0 (.op 1 (.alt 2 (.done) (.done))))]} Tryz.func55 (hvc:=?_)),
 (fun q0=>Ze Zl (Zb q0 Zf) mixed {loops:=[(0,[.reg 5 (.own (.ol 2 (.flat Iq))),.reg 16 (.dat Iq)])]} Tryz.func198 (hvc:=?_)),
 (fun q2 q0 q1 q3=>Ze Zl (Zb q2 (Zb q0 (Zb q1 (Zb q3 Zf)))) mixed {loops:=[(0,[.reg 20 (.dat Iq),.ent 0 (nat_lit 3) (.flat Zqe.ety)]),(2,[.reg 7 (.own (.ol 2 (.flat Iq))),.reg 43 (.dat Iq),.ent 0 (nat_lit 3) (.flat Zqe.ety)]),(4,[.reg 60 (.dat Iq),.ent 0 (nat_lit 3) (.flat Zqe.ety)])]} Tryz.func115 (hvc:=?_)),
 (Ze Zl Zf mixed {} Tryz.func387 (hvc:=?_)),
 (Ze Zl Zf mixed {} Tryz.func193 (hvc:=?_)),
 (Ze Zl Zf mixed {} Tryz.func196 (hvc:=?_)),
 (Ze Zl Zf mixed {} Tryz.func190 (hvc:=?_)),
 (Ze Zl Zf mixed {} Tryz.func235 (hvc:=?_)),
 (fun q0=>Ze Zl (Zb q0 Zf) mixed {} Tryz.func271 (hvc:=?_)),
 (Ze Zl Zf mixed {draws:=[(1,[0,1,3,7,15,31,0,64,192,448,0,1024,3072,8128,16320,32704,65535,131071,0,524287],.op 0 (.op 1 (.op 2 (.op 3 (.op 4 (.op 5 (.op 6 (.op 7 (.op 8 (.op 9 (.op 10 (.op 11 (.op 12 (.op 13 (.op 14 (.op 15 (.op 16 (.op 17 (.alt 18 (.alt 19 (.done) (.done)) (.done)))))))))))))))))))),(2,[0,1,3,7,15,31,0,64,255,511,1023,0,2048,8191,16383,32767],.op 0 (.op 1 (.op 2 (.op 3 (.op 4 (.op 5 (.op 6 (.op 7 (.op 8 (.op 9 (.op 10 (.op 11 (.op 12 (.op 13 (.op 14 (.alt 15 (.done) (.done)))))))))))))))))]} Tryz.func268 (hvc:=?_)),
 (fun q0=>Ze Zl (Zb q0 Zf) mixed {} Tryz.func54 (hvc:=?_)),
 (fun q1 q2 q0 q3=>Ze Zl (Zb q1 (Zb q2 (Zb q0 (Zb q3 Zf)))) mixed {draws:=[(4,[0,0,3,7,0,16,48,127,255,0,0,1024,3072,7168,0,31744,64512,0,262143,524287,1048575],.op 0 (.op 1 (.op 4 (.op 5 (.op 6 (.op 9 (.op 10 (.op 11 (.op 12 (.op 13 (.op 14 (.op 15 (.op 16 (.op 17 (.alt 2 (.op 3 (.op 7 (.op 8 (.alt 18 (.op 19 (.op 20 (.done))) (.done))))) (.done)))))))))))))))),(5,[0,0,2,6,14,0,62,126,0,256,1022,2046,0,8191,16383,32767],.op 0 (.op 1 (.op 2 (.op 3 (.op 4 (.op 5 (.op 6 (.op 7 (.op 8 (.op 9 (.op 10 (.op 11 (.op 12 (.alt 13 (.op 14 (.op 15 (.done))) (.done)))))))))))))))]} Tryz.func208 (hvc:=?_)),
 (fun q0 q1 q2=>Ze Zl (Zb q0 (Zb q1 (Zb q2 Zf))) mixed {draws:=[(1,[0,1,0,4,3,31],.op 0 (.op 1 (.op 2 (.op 3 (.op 4 (.op 5 (.done))))))),(2,[0,0,0,0,15,0,0,0,0,511,1023,0,0,0,0,31743,0,0,0,0,1047551,2096127,4194303,0,16777215],.op 0 (.op 1 (.op 2 (.op 3 (.op 5 (.op 6 (.op 7 (.op 8 (.op 11 (.op 12 (.op 13 (.op 14 (.op 16 (.op 17 (.op 18 (.op 19 (.alt 4 (.alt 9 (.op 10 (.alt 15 (.alt 20 (.op 21 (.op 22 (.alt 23 (.alt 24 (.done) (.done)) (.done)))) (.alt 23 (.alt 20 (.op 21 (.op 22 (.alt 24 (.done) (.done)))) (.done)) (.done))) (.alt 23 (.alt 15 (.alt 20 (.op 21 (.op 22 (.alt 24 (.done) (.done)))) (.done)) (.done)) (.done)))) (.alt 23 (.alt 9 (.op 10 (.alt 15 (.alt 20 (.op 21 (.op 22 (.alt 24 (.done) (.done)))) (.done)) (.done))) (.done)) (.done))) (.alt 23 (.alt 4 (.alt 9 (.op 10 (.alt 15 (.alt 20 (.op 21 (.op 22 (.alt 24 (.done) (.done)))) (.done)) (.done))) (.done)) (.done)) (.done))))))))))))))))))),(5,[0,1,3,7,0,0,48,127,255,511],.op 0 (.op 1 (.op 2 (.op 3 (.op 4 (.op 5 (.alt 6 (.op 7 (.op 8 (.op 9 (.done)))) (.done)))))))),(8,[0,0,1,7],.op 0 (.alt 1 (.alt 2 (.alt 3 (.done) (.done)) (.done)) (.alt 2 (.alt 1 (.alt 3 (.done) (.done)) (.done)) (.done))))]} Tryz.func120 (hvc:=?_)),
 (fun q0 q1 q2=>Ze Zl (Zb q0 (Zb q1 (Zb q2 Zf))) mixed {} Tryz.func18 (hvc:=?_)),
 (Ze Zl Zf mixed {} Tryz.func317 (hvc:=?_)),
 (Ze Zl Zf mixed {} Tryz.func126 (hvc:=?_)),
 (fun q0=>Ze Zl (Zb q0 Zf) mixed {loops:=[(0,[.reg 5 (.dat Iq)])],draws:=[(6,[0,0,3,7,0,0,48,112,255,511],.op 0 (.op 1 (.op 2 (.op 3 (.op 4 (.op 5 (.op 6 (.op 7 (.alt 8 (.op 9 (.done)) (.done))))))))))]} Tryz.func61 (hvc:=?_)),
 (fun q0=>Ze Zl (Zb q0 Zf) mixed {} Tryz.func84 (hvc:=?_)),
 (Ze XK Zf mixed {loops:=[(0,[.reg 1 (.dat Iq),.reg 5 (.dat Iq),.ent 0 (nat_lit 4) (.flat Ty.bool)])]} Tryz.func65 (hvc:=?_)),
 (fun q1 q2 q3 q0=>Ze XK (Zb q1 (Zb q2 (Zb q3 (Zb q0 Zf)))) mixed {loops:=[(0,[.reg 1 (.dat Iq),.reg 5 (.dat Iq),.ent 0 (nat_lit 168) (Dp.pair (Dp.flat Ty.str) (Dp.pair (Dp.flat (Ty.int IntKind.i64)) (Dp.pair (Dp.ol (340:Go.TypeId) (Dp.flat Zdx)) (Dp.pair (Dp.ol (173:Go.TypeId) Zuk) (Dp.pair (Dp.ol (2:Go.TypeId) (Dp.flat (Ty.int IntKind.i64))) (Dp.pair (Dp.flat (Ty.int IntKind.i64)) (Dp.pair (Dp.flat (Ty.int IntKind.i64)) (Dp.flat Ty.unit))))))))])]} Tryz.func127 (hvc:=?_)),
 (fun q0=>Ze XK (Zb q0 Zf) mixed {} Tryz.func62 (hvc:=?_)),
 (Ze Zl Zf mixed {} Tryz.func7 (hvc:=?_)),
 (fun q0=>Ze Zl (Zb q0 Zf) mixed {} Tryz.func35 (hvc:=?_)),
 (fun q0=>Ze Zl (Zb q0 Zf) mixed {loops:=[(0,[.reg 1 (.dat Iq),.reg 5 (.dat Iq)])]} Tryz.func240 (hvc:=?_)),
 (Ze Zl Zf mixed {loops:=[(0,[.reg 1 (.dat Iq),.reg 5 (.dat Iq)])]} Tryz.func88 (hvc:=?_)),
 (fun q0=>Ze Zl (Zb q0 Zf) mixed {loops:=[(0,[.reg 1 (.dat Iq),.reg 5 (.dat Iq)])]} Tryz.func340 (hvc:=?_)),
 (fun q0=>Ze XK (Zb q0 Zf) mixed {loops:=[(0,[.reg 4 (.dat Iq),.ent 0 (nat_lit 170) Zb7])]} Tryz.func104 (hvc:=?_)),
 (Ze Zl Zf mixed {} Tryz.func300 (hvc:=?_)),
 (fun q0=>Ze Zl (Zb q0 Zf) mixed {loops:=[(0,[.reg 4 (.dat Iq),.ent 0 (nat_lit 266) (.flat Zyz.ety)])]} Tryz.func106 (hvc:=?_)),
 (Ze Zl Zf mixed {} Tryz.func107 (hvc:=?_)),
 (fun q0=>Ze Zl (Zb q0 Zf) mixed {} Tryz.func258 (hvc:=?_)),
 (Ze Zl Zf mixed {loops:=[(0,[.reg 8 (.dat Iq)])]} Tryz.func363 (hvc:=?_)),
 (fun q1 q0=>Ze Zl (Zb q1 (Zb q0 Zf)) mixed {loops:=[(0,[.reg 4 (.dat Iq)])]} Tryz.func91 (hvc:=?_)),
 (fun q0 q1 q2=>Ze Zl (Zb q0 (Zb q1 (Zb q2 Zf))) mixed {loops:=[(0,[.reg 5 (.own (.ol 9 (.flat (.str)))),.reg 6 (.dat Iq)]),(2,[.reg 7 (.own (.ol 9 (.flat (.str)))),.reg 8 (.dat Iq)]),(4,[.reg 10 (.dat Iq),.ent 6 (nat_lit 2) (.flat Zum.ety)]),(6,[.reg 12 (.dat Iq),.ent 6 (nat_lit 2) (.flat Zum.ety)]),(8,[.reg 13 (.dat Iq)])]} Tryz.func174 (hvc:=?_)),
 (Ze Zl Zf mixed {} Tryz.func249 (hvc:=?_)),
 (Ze Zl Zf mixed {draws:=[(3,[0,1,0,4,0,16,60,124,252,511,1023,2047,0,4096,16383,32767,65535,131071],.op 0 (.op 1 (.op 2 (.op 3 (.op 4 (.op 5 (.op 6 (.op 7 (.op 8 (.op 9 (.op 10 (.op 11 (.op 12 (.op 13 (.op 14 (.op 15 (.op 16 (.op 17 (.done)))))))))))))))))))]} Tryz.func344 (hvc:=?_)),
 (fun q2 q0 q1 q3=>Ze Zl (Zb q2 (Zb q0 (Zb q1 (Zb q3 Zf)))) mixed {loops:=[(0,[.reg 9 (.dat Iq),.ent 2 (nat_lit 2) (.flat (Ty.int IntKind.i64))]),(2,[.reg 10 (.dat Iq),.ent 2 (nat_lit 2) (.flat (Ty.int IntKind.i64))])],draws:=[(8,[0,0,2,0,14,30,63,127,0,256,0,1024,0,0,0,24576,57344,126976,258048,524032,1048575,2097151,4194303],.op 0 (.op 1 (.op 2 (.op 3 (.op 4 (.op 5 (.op 6 (.op 7 (.op 8 (.op 9 (.op 10 (.op 11 (.op 12 (.op 13 (.op 14 (.op 15 (.op 16 (.op 17 (.op 18 (.alt 19 (.op 20 (.op 21 (.alt 22 (.done) (.done)))) (.done))))))))))))))))))))),(12,[0,0,2,0,14,30,63,127,0,0,768,1792,4095,8191,16383],.op 0 (.op 1 (.op 2 (.op 3 (.op 4 (.op 5 (.op 6 (.op 7 (.op 8 (.op 9 (.op 10 (.op 11 (.op 12 (.op 13 (.alt 14 (.done) (.done))))))))))))))))]} Tryz.func296 (hvc:=?_)),
 (fun q0 q1=>Ze Zl (Zb q0 (Zb q1 Zf)) mixed {draws:=[(1,[0,1,3,0,8,24,63,127,0,511],.op 0 (.op 1 (.op 3 (.op 4 (.op 5 (.alt 2 (.op 6 (.op 7 (.alt 8 (.alt 9 (.done) (.done)) (.done)))) (.alt 8 (.alt 2 (.op 6 (.op 7 (.alt 9 (.done) (.done)))) (.done)) (.done)))))))),(2,[0,1,3,0,8,24,0,64,248,504,1016,2047,4095,8191,0,16384,65535,131071,0,0,524288,1835008,3932160,8126464,4194303,33554431],.op 0 (.op 1 (.op 2 (.op 3 (.op 4 (.op 5 (.op 6 (.op 7 (.op 8 (.op 9 (.op 10 (.op 11 (.op 12 (.op 13 (.op 14 (.op 15 (.op 16 (.op 17 (.op 18 (.op 19 (.op 20 (.alt 21 (.op 22 (.alt 23 (.alt 24 (.op 25 (.done)) (.done)) (.alt 24 (.alt 23 (.op 25 (.done)) (.done)) (.done)))) (.done)))))))))))))))))))))))]} Tryz.func245 (hvc:=?_)),
 (Ze Zl Zf mixed {} Tryz.func250 (hvc:=?_)),
 (fun q2 q0 q3 q1=>Ze Zl (Zb q2 (Zb q0 (Zb q3 (Zb q1 Zf)))) mixed {draws:=[(4,[0,0,0,6,0,16,0,0,255,511,1023],.op 0 (.op 1 (.op 2 (.op 4 (.op 5 (.op 6 (.op 7 (.alt 3 (.alt 8 (.op 9 (.op 10 (.done))) (.done)) (.done)))))))))]} Tryz.func181 (hvc:=?_)),
 (fun q3 q1 q2 q0 q4=>Ze Zl (Zb q3 (Zb q1 (Zb q2 (Zb q0 (Zb q4 Zf))))) mixed {draws:=[(1,[0,1,3,7,15,31,63,127,255,511,1023,511,4095,8191,16383],.op 0 (.alt 1 (.op 2 (.op 3 (.op 4 (.alt 5 (.op 6 (.op 7 (.op 8 (.op 9 (.op 11 (.alt 10 (.alt 12 (.op 13 (.op 14 (.done))) (.done)) (.done))))))) (.done))))) (.done)))]} Tryz.func40 (hvc:=?_))⟩
 all_goals
  intro a
  repeat rcases a with ⟨_,a⟩
  rintro K ⟨r,h,hK⟩
  repeat'
    conv=>whnf
    first
    | with_reducible refine Ztc ?_
    | with_reducible refine Zfq (by assumption) (by assumption) (by assumption) ?_
    | with_reducible refine ZhT (by assumption) ?_
    | with_reducible refine Zfr (by assumption) ?_
    | (with_reducible refine shD ?_);first | refine Zpf h (fun h=>?_) (fun h=>?_) | refine ZsB h (fun h=>?_) (fun h=>?_)
    | (with_reducible refine ZtW ?_);first | refine Zun ?_ | refine Zkg ?_
    | (with_reducible refine ZxM ?_);first | refine ZrY h (fun h=>?_) (fun h=>?_) | refine Zub h (fun h=>?_) (fun h=>?_)
    | (with_reducible refine ZtV ?_);(refine ⟨fun hd=>?_,?_⟩)<;>try subst hd
    | (with_reducible refine ZxO ?_);first | with_reducible refine Zbe h (fun x hb h=>?_) | refine Zfr (by assumption) ?_ | with_reducible refine pG h (fun hp h=>?_) | with_reducible refine pA h (fun x ha hb hx h=>?_) | with_reducible refine pB h (fun x hb h=>?_) | refine Zbe h (fun x hb h=>?_)
    | (with_reducible refine ZxL ?_);first | with_reducible refine vAt h (fun x ha hb hx h=>?_) | refine Zfq (by assumption) (by assumption) (by assumption) ?_ | with_reducible refine pG h (fun hp h=>?_) | with_reducible refine pA h (fun x ha hb hx h=>?_) | with_reducible refine pB h (fun x hb h=>?_) | refine vAt h (fun x ha hb hx h=>?_)
    | (with_reducible refine ZtU ?_);first | with_reducible refine ZnZ h (fun x hb h=>?_) | refine ZhT (by assumption) ?_ | with_reducible refine pG h (fun hp h=>?_) | with_reducible refine pA h (fun x ha hb hx h=>?_) | with_reducible refine pB h (fun x hb h=>?_) | refine ZnZ h (fun x hb h=>?_)
    | with_reducible refine ZxN ?_
    | (with_reducible refine Zp0 ?_);refine Zqi h hK ?_;clear h hK;intro I μ v r h hK;(repeat rcases v with ⟨_,v⟩);(try dsimp only at h)
    | with_reducible refine ⟨by assumption,?_⟩
    | with_reducible refine orL ?_
    | with_reducible refine .inr ?_
    | (with_reducible refine ZtX ?_);first | refine ⟨?_,True.intro⟩ | refine ⟨?_,?_⟩
    | refine ⟨by kernel_rfl,?_⟩
    | refine ⟨by decide,?_⟩
    | with_reducible refine Zuo h (fun hp h=>?_)
    | intro fp
    | exact trivial
    | with_reducible exact Zs5 h
    | (refine pS h (fun e=>?_));subst e;(repeat (first | exact hK | exact ⟨⟨rfl,rfl⟩,hK.1 _ rfl⟩ | (refine pR hK (fun e hK=>?_));subst e));done
    | refine Zuo h (fun hp h=>?_)
    | refine ⟨by assumption,?_⟩
    | with_reducible refine pG h (fun hp h=>?_) | with_reducible refine pA h (fun x ha hb hx h=>?_) | with_reducible refine pB h (fun x hb h=>?_)
    | refine pG h (fun hp h=>?_)
    | fail
end Go.Proofs.YtclfgjepbamnlaaGreatDoor
