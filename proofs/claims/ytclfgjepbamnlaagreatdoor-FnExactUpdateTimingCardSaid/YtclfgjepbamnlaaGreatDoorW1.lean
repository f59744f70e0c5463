/-
  The functions keep their contracts, if what they call does. Printed by program.
-/
import Derived.Test.YtclfgjepbamnlaaGreatDoorM
import Derived.KernelRfl
namespace Go.Proofs.YtclfgjepbamnlaaGreatDoor
open Go Go.Sx
set_option maxRecDepth 100000
set_option maxHeartbeats 6400000
set_option linter.unusedVariables false
set_option linter.unusedSimpArgs false
structure Ws1:Prop where
 w134:Sq 401 ZyZ→Sq 389 Zy0
 w137:Sq 387 ZyS→Sq 388 c131→Sq 389 Zy0→Sq 390 Zy2→Sq 377 Zy1→Sq 217 ZyO→Sq 374 Zy3
 w224:Sq 272 ZzL
 w170:Sq 163 Zzc→Sq 236 Zzg
 w160:Sq 254 c148→Sq 255 Zyf→Sq 256 c156→Sq 257 c152→Sq 258 c159→Sq 185 c160
 w126:Sq 405 ZyV→Sq 135 ZyU→Sq 399 ZyW
 w231:Sq 121 ZzO
 w165:Sq 188 Zze
 w117:Sq 217 ZyO→Sq 373 Zxj→Sq 303 c116→Sq 346 c117
 w183:Sq 142 Zzl→Sq 266 c182→Sq 195 c183
 w131:Sq 397 c130→Sq 388 c131
 w194:Sq 267 c193→Sq 198 c194
 w195:Sq 198 c194→Sq 201 Zzv
 w204:Sq 205 Zyi
 w113:Sq 373 Zxj
 w176:Sq 116 Zzi
 w119:Sq 190 c119
 w175:Sq 163 Zzc→Sq 189 c168→Sq 190 c119→Sq 191 Zzh→Sq 192 Zw5→Sq 110 c175
 w197:Sq 108 c164→Sq 109 Zzf→Sq 110 c175→Sq 111 Zzm→Sq 112 Zzo→Sq 113 Zzq→Sq 114 Zzr→Sq 115 c196→Sq 53 Zzw
 w216:Sq 268 ZzF
 w186:Sq 196 Zzn→Sq 135 ZyU→Sq 136 c124→Sq 112 Zzo
 w221:Sq 355 ZzI→Sq 315 ZzJ
 w244:Sq 356 ZzV→Sq 318 ZzW
 w257:Sq 56 ZzZ→Sq 57 Zz4→Sq 58 Zz6→Sq 18 Zz7
 w259:Sq 59 Zz8→Sq 19 Zz9
 w256:Sq 84 Zz5→Sq 58 Zz6
 w278:Sq 73 ZGu
 w265:Sq 212 ZAa→Sq 213 ZAb→Sq 214 ZAe→Sq 22 ZAc→Sq 127 ZGh
 w270:Sq 128 ZGj→Sq 129 ZGk→Sq 130 ZGl→Sq 63 ZGm
 w262:Sq 22 ZAc
 w269:Sq 212 ZAa→Sq 130 ZGl
 w273:Sq 23 ZGp
 w21:Sq 38 c21
 w8:Sq 171 c7→Sq 86 c8
 w10:Sq 143 c2→Sq 172 c10
 w20:Sq 8 c20
 w12:Sq 88 c12
 w43:Sq 12 c43
 w26:Sq 13 c26
 w33:Sq 103 c32→Sq 47 c33
 w38:Sq 184 c37→Sq 106 c38
 w45:Sq 107 c44→Sq 50 c45
 w46:Sq 50 c45→Sq 14 c46
 w27:Sq 13 c26→Sq 372 c27
 w40:Sq 13 c26→Sq 79 c40
 w220:Sq 335 c218→Sq 382 ZzH→Sq 355 ZzI
 w200:Sq 138 Zzy
 w144:Sq 391 c143→Sq 375 Zy6
 w155:Sq 219 c154→Sq 140 Zzb
 w159:Sq 306 Zw4→Sq 258 c159
 w211:Sq 203 c210→Sq 202 Zyj
 w121:Sq 216 ZvG→Sq 219 Zye
 w208:Sq 141 ZzB→Sq 219 c208
 w192:Sq 200 Zzu
 w114:Sq 363 ZyQ
 w59:Sq 341 c52→Sq 177 c50→Sq 176 c51→Sq 342 c57→Sq 343 c58→Sq 295 c59
 w54:Sq 403 c53→Sq 176 c51→Sq 396 c54
 w55:Sq 396 c54→Sq 386 c55
 w53:Sq 176 c51→Sq 403 c53
 w90:Sq 228 c90
 w61:Sq 176 c51→Sq 243 c61
 w65:Sq 100 c64→Sq 97 c65
 w102:Sq 299 ZyK
 w103:Sq 298 c98→Sq 299 ZyK→Sq 249 c95→Sq 251 ZyL
 w79:Sq 90 c67→Sq 41 c77→Sq 131 c78→Sq 179 c79
 w69:Sq 100 c64→Sq 43 c69
 w83:Sq 215 c83
 w93:Sq 100 c64→Sq 296 c92→Sq 245 c93
 w97:Sq 100 c64→Sq 248 c97
 w80:Sq 43 c69→Sq 176 c51→Sq 134 c70→Sq 178 c71→Sq 145 c80
 w86:Sq 90 c67→Sq 91 c68→Sq 43 c69→Sq 92 c72→Sq 93 c85→Sq 40 c86
set_option maxHeartbeats 100000000 in
theorem ws1:Ws1:=by
 refine ⟨(fun q0=>Ze Zl (Zb q0 Zf) mixed {} Tryz.func389 (hvc:=?_)),
 (fun q4 q3 q2 q0 q1 q5=>Ze Zl (Zb q4 (Zb q3 (Zb q2 (Zb q0 (Zb q1 (Zb q5 Zf)))))) mixed {draws:=[(2,[0,1,3,7,15,31,63,127,255,511,1023,2047,4095,8191,16383,32767,65535,32767,163839,524287,1048575,2097151,4194303,8388607,16777215,33554431,67108863,134217727,134217727,402653183,1073741823,2147483647,4294967295,8589934591,17179869183,8589934591,42949672959,137438953471,274877906943,549755813887],.op 0 (.op 1 (.op 2 (.op 3 (.op 4 (.op 5 (.op 6 (.op 7 (.op 8 (.op 9 (.op 10 (.op 11 (.alt 12 (.op 13 (.op 14 (.op 15 (.op 16 (.op 17 (.alt 18 (.op 19 (.op 20 (.op 21 (.op 22 (.op 23 (.op 24 (.op 25 (.op 26 (.op 27 (.op 28 (.op 29 (.alt 30 (.op 31 (.op 32 (.op 33 (.op 34 (.op 35 (.op 36 (.op 37 (.op 38 (.op 39 (.done)))))))))) (.done))))))))))))) (.done))))))) (.done)))))))))))))),(3,[0,1,3,7,15,31,63,127,255,511,1023,2047,4095,2047,10239,32767,65535,131071,262143,262143,786431,2097151,4194303,8388607],.op 0 (.op 1 (.alt 2 (.op 3 (.op 4 (.op 5 (.op 6 (.alt 7 (.op 8 (.op 9 (.op 10 (.op 11 (.op 12 (.op 13 (.alt 14 (.op 15 (.op 16 (.op 17 (.op 18 (.op 19 (.op 20 (.alt 21 (.op 22 (.op 23 (.done))) (.done)))))))) (.done)))))))) (.done)))))) (.done))))]} Tryz.func374 (hvc:=?_)),
 (Ze Zl Zf mixed {} Tryz.func272 (hvc:=?_)),
 (fun q0=>Ze Zl (Zb q0 Zf) mixed {loops:=[(0,[.reg 5 (.own (.ol 2 (.flat Iq))),.reg 11 (.dat Iq)])]} Tryz.func236 (hvc:=?_)),
 (fun q4 q2 q1 q3 q0=>Ze Zl (Zb q4 (Zb q2 (Zb q1 (Zb q3 (Zb q0 Zf))))) mixed {loops:=[(0,[.reg 25 (.dat Iq),.ent 2 (nat_lit 3) (.flat Zqe.ety)]),(2,[.reg 51 (.dat Iq),.ent 2 (nat_lit 3) (.flat Zqe.ety)])]} Tryz.func185 (hvc:=?_)),
 (fun q1 q0=>Ze Zl (Zb q1 (Zb q0 Zf)) mixed {} Tryz.func399 (hvc:=?_)),
 (Ze Zl Zf mixed {} Tryz.func121 (hvc:=?_)),
 (Ze Zl Zf mixed {} Tryz.func188 (hvc:=?_)),
 (fun q2 q0 q1=>Ze Zl (Zb q2 (Zb q0 (Zb q1 Zf))) mixed {loops:=[(0,[.reg 3 (.own (.ol 9 (.flat (.str)))),.reg 8 (.dat Iq)])]} Tryz.func346 (hvc:=?_)),
 (fun q0 q1=>Ze Zl (Zb q0 (Zb q1 Zf)) mixed {} Tryz.func195 (hvc:=?_)),
 (fun q0=>Ze Zl (Zb q0 Zf) mixed {} Tryz.func388 (hvc:=?_)),
 (fun q0=>Ze Zl (Zb q0 Zf) mixed {loops:=[(0,[.reg 5 (.own (.ol 2 (.flat Iq))),.reg 16 (.dat Iq)])]} Tryz.func198 (hvc:=?_)),
 (fun q0=>Ze Zl (Zb q0 Zf) mixed {} Tryz.func201 (hvc:=?_)),
 (Ze Zl Zf mixed {} Tryz.func205 (hvc:=?_)),
 (Ze Zl Zf mixed {} Tryz.func373 (hvc:=?_)),
 (Ze Zl Zf mixed {} Tryz.func116 (hvc:=?_)),
 (Ze Zl Zf mixed {} Tryz.func190 (hvc:=?_)),
 (fun q3 q1 q4 q2 q0=>Ze XK (Zb q3 (Zb q1 (Zb q4 (Zb q2 (Zb q0 Zf))))) mixed {loops:=[(0,[.reg 4 (.dat Iq),.reg 25 (.dat Iq),.cello 1020 6 (.ol 183 (.flat (JY)))]),(2,[.reg 60 (.dat Iq),.ent 4 (nat_lit 2) (.flat Zum.ety),.ent 5 (nat_lit 35) (Dp.ol (2:Go.TypeId) (Dp.flat (Ty.int IntKind.i64)))]),(4,[.reg 88 (.dat Iq),.cello 1020 7 (.ol 2 (.flat Iq)),.cello 1020 8 (.ol 35 (.ol 2 (.flat Iq))),.cello 1020 6 (.ol (nat_lit 183) (.flat JY)),.ent 5 (nat_lit 35) (Dp.ol (2:Go.TypeId) (Dp.flat (Ty.int IntKind.i64)))]),(6,[.reg 122 (.dat Iq),.cello 1020 6 (.ol (nat_lit 183) (.flat JY))]),(8,[.reg 127 (.dat Iq),.cello 1020 6 (.ol (nat_lit 183) (.flat JY))])],draws:=[(1,[0,0,2,6,15,31,63],.op 0 (.op 1 (.op 2 (.alt 3 (.op 4 (.alt 5 (.op 6 (.done)) (.done))) (.done))))),(6,[0,0,2,6,14,0,0,0,224,510,1023,2047,4095],.op 0 (.op 1 (.op 2 (.op 3 (.op 4 (.op 5 (.op 6 (.op 7 (.alt 8 (.alt 9 (.op 10 (.op 11 (.alt 12 (.done) (.done)))) (.done)) (.done)))))))))),(16,[0,0,2,0,0,16,56,120,0,256,1016,2047,4095],.op 0 (.op 1 (.op 3 (.op 4 (.op 5 (.op 6 (.op 7 (.op 8 (.ld 2 (.alt 9 (.alt 10 (.op 11 (.alt 12 (.done) (.done))) (.done)) (.done))))))))))),(21,[0,0,2,6,14,0,0,96,224,480,992,2046,4095,8191,16383],.op 0 (.op 1 (.op 2 (.op 3 (.op 4 (.op 5 (.op 6 (.alt 7 (.op 8 (.op 9 (.alt 10 (.alt 11 (.op 12 (.op 13 (.alt 14 (.done) (.done)))) (.done)) (.done)))) (.done))))))))),(22,[0,0,2,6,14,0,0,96,224,510,1023,2047,4095],.op 0 (.op 1 (.op 2 (.op 3 (.op 4 (.op 5 (.op 6 (.alt 7 (.alt 8 (.alt 9 (.op 10 (.op 11 (.alt 12 (.done) (.done)))) (.done)) (.done)) (.done))))))))),(29,[0,0,2,6,14,0,0,96,224,480,0,2016,0,4096,0,28672,0,131040,262112,524286,1048575,2097151,4194303],.op 0 (.op 1 (.op 2 (.op 3 (.op 4 (.op 5 (.op 6 (.op 7 (.op 8 (.op 9 (.op 10 (.op 11 (.op 12 (.op 13 (.op 14 (.op 15 (.op 16 (.op 17 (.alt 18 (.alt 19 (.op 20 (.op 21 (.alt 22 (.done) (.done)))) (.done)) (.done))))))))))))))))))))]} Tryz.func110 (hvc:=?_)),
 (fun q6 q5 q7 q1 q2 q0 q3 q4=>Ze Zl (Zb q6 (Zb q5 (Zb q7 (Zb q1 (Zb q2 (Zb q0 (Zb q3 (Zb q4 Zf)))))))) mixed {} Tryz.func53 (hvc:=?_)),
 (Ze Zl Zf mixed {draws:=[(1,[0,1,3,7,15,31,0,64,192,448,0,1024,3072,8128,16320,32704,65535,131071,0,524287],.op 0 (.op 1 (.op 2 (.op 3 (.op 4 (.op 5 (.op 6 (.op 7 (.op 8 (.op 9 (.op 10 (.op 11 (.op 12 (.op 13 (.op 14 (.op 15 (.op 16 (.op 17 (.alt 18 (.alt 19 (.done) (.done)) (.done)))))))))))))))))))),(2,[0,1,3,7,15,31,0,64,255,511,1023,0,2048,8191,16383,32767],.op 0 (.op 1 (.op 2 (.op 3 (.op 4 (.op 5 (.op 6 (.op 7 (.op 8 (.op 9 (.op 10 (.op 11 (.op 12 (.op 13 (.op 14 (.alt 15 (.done) (.done)))))))))))))))))]} Tryz.func268 (hvc:=?_)),
 (fun q0 q2 q1=>Ze Zl (Zb q0 (Zb q2 (Zb q1 Zf))) mixed {} Tryz.func112 (hvc:=?_)),
 (fun q0=>Ze Zl (Zb q0 Zf) mixed {draws:=[(1,[0,0,2,6,15,0,0,64,192,480,992,2047,4095],.op 0 (.op 1 (.op 2 (.op 3 (.op 4 (.op 5 (.op 6 (.op 7 (.op 8 (.op 9 (.op 10 (.op 11 (.op 12 (.done)))))))))))))),(5,[0,1,0,0,12,28,0,124,255,0,0,0,0,4096,14336,30720,64512,130560,262143,0,0,1572864,3670016,0,0,16777216,58720256,125829120,267911168,524287,1073741823],.op 0 (.op 1 (.op 2 (.op 3 (.op 4 (.op 5 (.op 6 (.op 7 (.op 8 (.op 9 (.op 10 (.op 11 (.op 12 (.op 13 (.op 14 (.op 15 (.op 16 (.op 17 (.op 19 (.op 20 (.op 21 (.op 22 (.op 23 (.op 24 (.op 25 (.op 26 (.op 27 (.op 28 (.alt 18 (.op 29 (.op 30 (.done))) (.done))))))))))))))))))))))))))))))]} Tryz.func315 (hvc:=?_)),
 (fun q0=>Ze Zl (Zb q0 Zf) mixed {} Tryz.func318 (hvc:=?_)),
 (fun q0 q1 q2=>Ze Zl (Zb q0 (Zb q1 (Zb q2 Zf))) mixed {} Tryz.func18 (hvc:=?_)),
 (fun q0=>Ze Zl (Zb q0 Zf) mixed {loops:=[(0,[.reg 5 (.dat Iq)])],draws:=[(6,[0,0,3,7,0,0,48,112,255,511],.op 0 (.op 1 (.op 2 (.op 3 (.op 4 (.op 5 (.op 6 (.op 7 (.alt 8 (.op 9 (.done)) (.done))))))))))]} Tryz.func19 (hvc:=?_)),
 (fun q0=>Ze Zl (Zb q0 Zf) mixed {loops:=[(0,[.reg 5 (.dat Iq)])],draws:=[(6,[0,0,3,7,0,0,48,112,255,511],.op 0 (.op 1 (.op 2 (.op 3 (.op 4 (.op 5 (.op 6 (.op 7 (.alt 8 (.op 9 (.done)) (.done))))))))))]} Tryz.func58 (hvc:=?_)),
 (Ze Zl Zf mixed {loops:=[(0,[.reg 1 (.dat Iq),.reg 5 (.dat Iq)])]} Tryz.func73 (hvc:=?_)),
 (fun q1 q2 q3 q0=>Ze XK (Zb q1 (Zb q2 (Zb q3 (Zb q0 Zf)))) mixed {loops:=[(0,[.reg 1 (.dat Iq),.reg 5 (.dat Iq),.ent 0 (nat_lit 168) (Dp.pair (Dp.flat Ty.str) (Dp.pair (Dp.flat (Ty.int IntKind.i64)) (Dp.pair (Dp.ol (340:Go.TypeId) (Dp.flat Zdx)) (Dp.pair (Dp.ol (173:Go.TypeId) Zuk) (Dp.pair (Dp.ol (2:Go.TypeId) (Dp.flat (Ty.int IntKind.i64))) (Dp.pair (Dp.flat (Ty.int IntKind.i64)) (Dp.pair (Dp.flat (Ty.int IntKind.i64)) (Dp.flat Ty.unit))))))))])]} Tryz.func127 (hvc:=?_)),
 (fun q0 q1 q2=>Ze XK (Zb q0 (Zb q1 (Zb q2 Zf))) mixed {} Tryz.func63 (hvc:=?_)),
 (Ze XK Zf mixed {loops:=[(0,[.reg 1 (.dat Iq),.reg 5 (.dat Iq),.ent 0 (nat_lit 2) (.flat (Ty.int IntKind.i64))])]} Tryz.func22 (hvc:=?_)),
 (fun q0=>Ze XK (Zb q0 Zf) mixed {loops:=[(0,[.reg 1 (.dat Iq),.reg 5 (.dat Iq),.ent 0 (nat_lit 266) (.flat V6)])]} Tryz.func130 (hvc:=?_)),
 (Ze XK Zf mixed {loops:=[(0,[.reg 1 (.dat Iq),.reg 5 (.dat Iq),.ent 0 (nat_lit 105) (.flat Z6)])]} Tryz.func23 (hvc:=?_)),
 (Ze Zl Zf mixed {} Tryz.func38 (hvc:=?_)),
 (fun q0=>Ze Zl (Zb q0 Zf) mixed {loops:=[(0,[.reg 1 (.dat Iq),.reg 5 (.dat Iq)])]} Tryz.func86 (hvc:=?_)),
 (fun q0=>Ze Zl (Zb q0 Zf) mixed {} Tryz.func172 (hvc:=?_)),
 (Ze Zl Zf mixed {} Tryz.func8 (hvc:=?_)),
 (Ze Zl Zf mixed {loops:=[(0,[.reg 1 (.dat Iq),.reg 5 (.dat Iq)])]} Tryz.func88 (hvc:=?_)),
 (Ze Zl Zf mixed {} Tryz.func12 (hvc:=?_)),
 (Ze Zl Zf mixed {loops:=[(0,[.reg 4 (.dat Iq),.ent 0 (nat_lit 2) (.flat Zum.ety)])]} Tryz.func13 (hvc:=?_)),
 (fun q0=>Ze XK (Zb q0 Zf) mixed {} Tryz.func47 (hvc:=?_)),
 (fun q0=>Ze Zl (Zb q0 Zf) mixed {loops:=[(0,[.reg 4 (.dat Iq),.ent 0 (nat_lit 266) (.flat Zyz.ety)])]} Tryz.func106 (hvc:=?_)),
 (fun q0=>Ze Zl (Zb q0 Zf) mixed {} Tryz.func50 (hvc:=?_)),
 (fun q0=>Ze Zl (Zb q0 Zf) mixed {loops:=[(0,[.reg 4 (.dat Iq),.ent 0 (nat_lit 105) (.flat ZyA.ety)])]} Tryz.func14 (hvc:=?_)),
 (fun q0=>Ze Zl (Zb q0 Zf) mixed {} Tryz.func372 (hvc:=?_)),
 (fun q0=>Ze Zl (Zb q0 Zf) mixed {} Tryz.func79 (hvc:=?_)),
 (fun q1 q0=>Ze Zl (Zb q1 (Zb q0 Zf)) mixed {loops:=[(0,[.reg 7 (.dat Iq),.reg 8 (.dat Iq)])]} Tryz.func355 (hvc:=?_)),
 (Ze Zl Zf mixed {} Tryz.func138 (hvc:=?_)),
 (fun q0=>Ze Zl (Zb q0 Zf) mixed {} Tryz.func375 (hvc:=?_)),
 (fun q0=>Ze Zl (Zb q0 Zf) mixed {} Tryz.func140 (hvc:=?_)),
 (fun q0=>Ze Zl (Zb q0 Zf) mixed {} Tryz.func258 (hvc:=?_)),
 (fun q0=>Ze Zl (Zb q0 Zf) mixed {loops:=[(0,[.reg 8 (.dat Iq)])]} Tryz.func202 (hvc:=?_)),
 (fun q0=>Ze Zl (Zb q0 Zf) mixed {loops:=[(0,[.reg 8 (.dat Iq)])]} Tryz.func219 (hvc:=?_)),
 (fun q0=>Ze Zl (Zb q0 Zf) mixed {loops:=[(0,[.reg 8 (.dat Iq)])]} Tryz.func219 (hvc:=?_)),
 (Ze Zl Zf mixed {loops:=[(0,[.reg 8 (.dat Iq)])]} Tryz.func200 (hvc:=?_)),
 (Ze Zl Zf mixed {loops:=[(0,[.reg 8 (.dat Iq)])]} Tryz.func363 (hvc:=?_)),
 (fun q1 q2 q4 q3 q0=>Ze Zl (Zb q1 (Zb q2 (Zb q4 (Zb q3 (Zb q0 Zf))))) mixed {loops:=[(0,[.reg 5 (.dat Iq)]),(2,[.reg 7 (.dat Iq)]),(5,[.reg 9 (.dat Iq)])],draws:=[(13,[0,1,0,7,15,31,0,64,255,511,1023,2047,1023,8191,16383,32767,1023,66559,262143,524287,1048575,2097151,4194303,2097151,16777215,33554431,67108863,2097151,136314879,536870911,1073741823],.op 0 (.op 1 (.op 2 (.op 3 (.op 4 (.op 5 (.op 6 (.op 7 (.op 8 (.op 9 (.op 10 (.op 11 (.op 12 (.op 13 (.op 14 (.op 15 (.op 16 (.op 17 (.op 18 (.op 19 (.op 20 (.op 21 (.op 22 (.op 23 (.op 24 (.op 25 (.op 26 (.op 27 (.op 28 (.op 29 (.op 30 (.done)))))))))))))))))))))))))))))))),(25,[0,1,3,7,15,31,63,127,255,511,1023,2047,4095,511,8703,25087,57855,131071,262143,524287,1048575,2097151,4194303,8388607,16777215,33554431],.op 0 (.op 1 (.op 2 (.op 3 (.op 4 (.op 5 (.op 6 (.op 7 (.op 8 (.op 9 (.op 10 (.op 11 (.op 12 (.op 13 (.op 14 (.op 15 (.op 16 (.op 17 (.op 18 (.op 19 (.op 20 (.op 21 (.op 22 (.op 23 (.op 24 (.op 25 (.done)))))))))))))))))))))))))))]} Tryz.func295 (hvc:=?_)),
 (fun q0 q1=>Ze Zl (Zb q0 (Zb q1 Zf)) mixed {loops:=[(0,[.reg 3 (.dat Iq)])]} Tryz.func396 (hvc:=?_)),
 (fun q0=>Ze Zl (Zb q0 Zf) mixed {loops:=[(0,[.reg 5 (.dat Iq),.cell 1004 0 Iq,.cell 1004 1 Iq])],draws:=[(3,[0,1,3,7,0,16,48,112,255,0,1023],.op 0 (.op 1 (.op 2 (.op 3 (.op 4 (.op 5 (.op 6 (.op 7 (.op 8 (.alt 9 (.alt 10 (.done) (.done)) (.done))))))))))),(7,[0,1,0,4,0,28,60,127,255,511],.op 0 (.op 1 (.op 2 (.op 3 (.op 4 (.op 5 (.op 6 (.op 7 (.op 8 (.alt 9 (.done) (.done))))))))))),(8,[0,1,0,4,0,28,60,127,255,511],.op 0 (.op 1 (.op 2 (.op 3 (.op 4 (.op 5 (.op 6 (.op 7 (.op 8 (.alt 9 (.done) (.done)))))))))))]} Tryz.func386 (hvc:=?_)),
 (fun q0=>Ze Zl (Zb q0 Zf) mixed {loops:=[(0,[.reg 3 (.dat Iq)])],draws:=[(4,[0,0,3,7,15,31,63,127,255,511,1023,1023,3071,8191,16383,1023,1023,99327,230399,524287,1048575,2097151],.op 0 (.op 1 (.op 2 (.op 3 (.alt 4 (.op 5 (.op 6 (.op 7 (.op 8 (.op 9 (.op 10 (.op 11 (.op 12 (.op 13 (.op 14 (.op 15 (.op 16 (.op 17 (.op 18 (.op 19 (.op 20 (.op 21 (.done)))))))))))))))))) (.done))))))]} Tryz.func403 (hvc:=?_)),
 (Ze Zl Zf mixed {} Tryz.func228 (hvc:=?_)),
 (fun q0=>Ze Zl (Zb q0 Zf) mixed {loops:=[(0,[.reg 6 (.dat Iq)]),(2,[.reg 8 (.dat Iq)]),(4,[.reg 9 (.dat Iq)])],draws:=[(6,[0,1,0,4,12,28,63,127,255,511,1023,2047,511,4607,511,16895,61951,127487,258559,520703,1048575,2097151],.op 0 (.op 1 (.op 2 (.op 3 (.op 4 (.op 5 (.alt 6 (.op 7 (.op 8 (.op 9 (.op 10 (.op 11 (.op 12 (.op 13 (.op 14 (.op 15 (.op 16 (.op 17 (.op 18 (.op 19 (.op 20 (.op 21 (.done)))))))))))))))) (.done))))))))]} Tryz.func243 (hvc:=?_)),
 (fun q0=>Ze Zl (Zb q0 Zf) mixed {loops:=[(0,[.reg 5 (.own (.ol 2 (.flat Iq))),.reg 7 (.dat Iq)])]} Tryz.func97 (hvc:=?_)),
 (Ze Zl Zf mixed {loops:=[(0,[.reg 5 (.dat Iq),.reg 6 (.dat Iq)])]} Tryz.func299 (hvc:=?_)),
 (fun q0 q1 q2=>Ze Zl (Zb q0 (Zb q1 (Zb q2 Zf))) mixed {draws:=[(1,[0,0,3,0,8,0,56,120,248,0,1016,2040,4095,8191,16383],.op 0 (.op 1 (.op 3 (.op 4 (.op 5 (.op 6 (.op 7 (.op 8 (.op 9 (.op 10 (.op 11 (.alt 2 (.op 12 (.op 13 (.op 14 (.done)))) (.done)))))))))))))]} Tryz.func251 (hvc:=?_)),
 (fun q2 q1 q0=>Ze Zl (Zb q2 (Zb q1 (Zb q0 Zf))) mixed {} Tryz.func179 (hvc:=?_)),
 (fun q0=>Ze Zl (Zb q0 Zf) mixed {} Tryz.func43 (hvc:=?_)),
 (Ze Zl Zf mixed {loops:=[(0,[.reg 8 (.own (.ol 2 (.flat Iq))),.ent 1 (nat_lit 4) (.flat Zvy.ety)]),(2,[.reg 11 (.dat Iq),.ent 3 (nat_lit 4) (.flat Zvy.ety)]),(4,[.reg 12 (.dat Iq)])]} Tryz.func215 (hvc:=?_)),
 (fun q0 q1=>Ze Zl (Zb q0 (Zb q1 Zf)) mixed {draws:=[(1,[0,1,3,0,8,24,63,127,0,511],.op 0 (.op 1 (.op 3 (.op 4 (.op 5 (.alt 2 (.op 6 (.op 7 (.alt 8 (.alt 9 (.done) (.done)) (.done)))) (.alt 8 (.alt 2 (.op 6 (.op 7 (.alt 9 (.done) (.done)))) (.done)) (.done)))))))),(2,[0,1,3,0,8,24,0,64,248,504,1016,2047,4095,8191,0,16384,65535,131071,0,0,524288,1835008,3932160,8126464,4194303,33554431],.op 0 (.op 1 (.op 2 (.op 3 (.op 4 (.op 5 (.op 6 (.op 7 (.op 8 (.op 9 (.op 10 (.op 11 (.op 12 (.op 13 (.op 14 (.op 15 (.op 16 (.op 17 (.op 18 (.op 19 (.op 20 (.alt 21 (.op 22 (.alt 23 (.alt 24 (.op 25 (.done)) (.done)) (.alt 24 (.alt 23 (.op 25 (.done)) (.done)) (.done)))) (.done)))))))))))))))))))))))]} Tryz.func245 (hvc:=?_)),
 (fun q0=>Ze Zl (Zb q0 Zf) mixed {draws:=[(1,[0,1,3,0,8,24,63,127,255,511],.op 0 (.op 1 (.op 3 (.op 4 (.op 5 (.alt 2 (.op 6 (.op 7 (.op 8 (.op 9 (.done))))) (.done)))))))]} Tryz.func248 (hvc:=?_)),
 (fun q0 q3 q2 q1=>Ze Zl (Zb q0 (Zb q3 (Zb q2 (Zb q1 Zf)))) mixed {loops:=[(0,[.reg 6 (.dat Iq)])],draws:=[(5,[0,0,3,7,15,0,32,127,255,511,1023,2047,4095,8191,8191,24575,65535,131071,262143,8191,8191,1581055,3678207,7872511,16777215,33554431,67108863,134217727,268435455,268435455,1073741823,2147483647,4294967295,8589934591,17179869183,34359738367,68719476735,137438953471,137438953471,549755813887,1099511627775,2199023255551,4398046511103,8796093022207,17592186044415],.op 0 (.op 1 (.op 2 (.op 3 (.op 4 (.op 5 (.op 6 (.alt 7 (.op 8 (.op 9 (.op 10 (.op 11 (.op 12 (.op 13 (.op 14 (.op 15 (.op 16 (.op 17 (.op 18 (.op 19 (.op 20 (.op 21 (.op 22 (.op 23 (.op 24 (.op 25 (.op 26 (.op 27 (.op 28 (.op 29 (.op 30 (.op 31 (.op 32 (.alt 33 (.op 34 (.op 35 (.op 36 (.op 37 (.op 38 (.op 39 (.op 40 (.op 41 (.alt 42 (.op 43 (.op 44 (.done))) (.done)))))))))) (.done))))))))))))))))))))))))))) (.done)))))))))]} Tryz.func145 (hvc:=?_)),
 (fun q3 q1 q2 q0 q4=>Ze Zl (Zb q3 (Zb q1 (Zb q2 (Zb q0 (Zb q4 Zf))))) mixed {draws:=[(1,[0,1,3,7,15,31,63,127,255,511,1023,511,4095,8191,16383],.op 0 (.alt 1 (.op 2 (.op 3 (.op 4 (.alt 5 (.op 6 (.op 7 (.op 8 (.op 9 (.op 11 (.alt 10 (.alt 12 (.op 13 (.op 14 (.done))) (.done)) (.done))))))) (.done))))) (.done)))]} Tryz.func40 (hvc:=?_))⟩
 all_goals
  intro a
  repeat rcases a with ⟨_,a⟩
  rintro K ⟨r,h,hK⟩
  repeat'
    conv=>whnf
    first
    | with_reducible refine Ztc ?_
    | with_reducible refine Zfq (by assumption) (by assumption) (by assumption) ?_
    | with_reducible refine ZhT (by assumption) ?_
    | with_reducible refine Zfr (by assumption) ?_
    | (with_reducible refine shD ?_);first | refine Zpf h (fun h=>?_) (fun h=>?_) | refine ZsB h (fun h=>?_) (fun h=>?_)
    | (with_reducible refine ZtW ?_);first | refine Zun ?_ | refine Zkg ?_
    | (with_reducible refine ZxM ?_);first | refine ZrY h (fun h=>?_) (fun h=>?_) | refine Zub h (fun h=>?_) (fun h=>?_)
    | (with_reducible refine ZtV ?_);(refine ⟨fun hd=>?_,?_⟩)<;>try subst hd
    | (with_reducible refine ZxO ?_);first | with_reducible refine Zbe h (fun x hb h=>?_) | refine Zfr (by assumption) ?_ | with_reducible refine pG h (fun hp h=>?_) | with_reducible refine pA h (fun x ha hb hx h=>?_) | with_reducible refine pB h (fun x hb h=>?_) | refine Zbe h (fun x hb h=>?_)
    | (with_reducible refine ZxL ?_);first | with_reducible refine vAt h (fun x ha hb hx h=>?_) | refine Zfq (by assumption) (by assumption) (by assumption) ?_ | with_reducible refine pG h (fun hp h=>?_) | with_reducible refine pA h (fun x ha hb hx h=>?_) | with_reducible refine pB h (fun x hb h=>?_) | refine vAt h (fun x ha hb hx h=>?_)
    | (with_reducible refine ZtU ?_);first | with_reducible refine ZnZ h (fun x hb h=>?_) | refine ZhT (by assumption) ?_ | with_reducible refine pG h (fun hp h=>?_) | with_reducible refine pA h (fun x ha hb hx h=>?_) | with_reducible refine pB h (fun x hb h=>?_) | refine ZnZ h (fun x hb h=>?_)
    | with_reducible refine ZxN ?_
    | (with_reducible refine Zp0 ?_);refine Zqi h hK ?_;clear h hK;intro I μ v r h hK;(repeat rcases v with ⟨_,v⟩);(try dsimp only at h)
    | with_reducible refine ⟨by assumption,?_⟩
    | with_reducible refine orL ?_
    | with_reducible refine .inr ?_
    | (with_reducible refine ZtX ?_);first | refine ⟨?_,True.intro⟩ | refine ⟨?_,?_⟩
    | refine ⟨by kernel_rfl,?_⟩
    | refine ⟨by decide,?_⟩
    | with_reducible refine Zuo h (fun hp h=>?_)
    | intro fp
    | exact trivial
    | with_reducible exact Zs5 h
    | (refine pS h (fun e=>?_));subst e;(repeat (first | exact hK | exact ⟨⟨rfl,rfl⟩,hK.1 _ rfl⟩ | (refine pR hK (fun e hK=>?_));subst e));done
    | refine Zuo h (fun hp h=>?_)
    | refine ⟨by assumption,?_⟩
    | with_reducible refine pG h (fun hp h=>?_) | with_reducible refine pA h (fun x ha hb hx h=>?_) | with_reducible refine pB h (fun x hb h=>?_)
    | refine pG h (fun hp h=>?_)
    | fail
end Go.Proofs.YtclfgjepbamnlaaGreatDoor
