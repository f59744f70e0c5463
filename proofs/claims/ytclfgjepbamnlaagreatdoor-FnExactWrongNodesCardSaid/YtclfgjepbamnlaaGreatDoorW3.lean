/-
  The functions keep their contracts, if what they call does. Printed by program.
-/
import Derived.Test.YtclfgjepbamnlaaGreatDoorM
import Derived.KernelRfl
namespace Go.Proofs.YtclfgjepbamnlaaGreatDoor
open Go Go.Sx
set_option maxRecDepth 100000
set_option maxHeartbeats 3200000
set_option linter.unusedVariables false
set_option linter.unusedSimpArgs false
structure Ws3:Prop where
 w170:Sq 191 Zyg→Sq 265 Zzg
 w135:Sq 376 Zy1
 w139:Sq 392 c139
 w168:Sq 264 c168
 w150:Sq 257 Zyf→Sq 305 Zy8
 w178:Sq 220 Zzj→Sq 142 Zxl
 w211:Sq 315 ZzC→Sq 270 c210→Sq 269 Zyj
 w114:Sq 217 Zqk→Sq 373 Zyd→Sq 303 Zxj→Sq 346 ZyQ
 w190:Sq 267 Zzs
 w109:Sq 217 Zqk→Sq 261 Ziw→Sq 262 Zev→Sq 187 c109
 w179:Sq 217 Zqk→Sq 266 Zzk
 w172:Sq 163 Zw4→Sq 189 Zze→Sq 190 c116→Sq 191 Zyg→Sq 192 c171→Sq 110 Zzh
 w194:Sq 108 Zzc→Sq 109 Zzd→Sq 110 Zzh→Sq 111 Zzl→Sq 112 c183→Sq 113 Zzn→Sq 114 Zzo→Sq 115 c193→Sq 53 c194
 w184:Sq 54 Zw5→Sq 217 Zqk→Sq 197 Zzm
 w203:Sq 207 c203
 w209:Sq 355 c208→Sq 315 ZzC
 w230:Sq 209 c229→Sq 122 ZzN
 w233:Sq 210 c232→Sq 123 c233
 w242:Sq 126 Zyk→Sq 59 ZzU
 w262:Sq 66 ZAc
 w8:Sq 171 c7→Sq 86 c8
 w15:Sq 87 c11→Sq 88 c12→Sq 89 c14→Sq 36 c15
 w11:Sq 172 c10→Sq 87 c11
 w2:Sq 143 c2
 w22:Sq 39 c22
 w3:Sq 143 c2→Sq 370 c3
 w23:Sq 38 c21→Sq 39 c22→Sq 9 c23
 w43:Sq 12 c43
 w45:Sq 107 c44→Sq 50 c45
 w36:Sq 105 c36
 w28:Sq 372 c27→Sq 345 c28
 w41:Sq 79 c40→Sq 49 c41
 w137:Sq 391 Zy2→Sq 375 Zy3
 w141:Sq 391 Zy4→Sq 375 c141
 w127:Sq 404 ZyW→Sq 397 c127
 w112:Sq 363 ZyO→Sq 349 ZyP
 w151:Sq 305 Zy8→Sq 219 Zy9
 w207:Sq 382 ZzB
 w67:Sq 174 c63→Sq 97 c65→Sq 175 c66→Sq 90 c67
 w60:Sq 295 c59→Sq 242 c60
 w66:Sq 176 c51→Sq 175 c66
 w84:Sq 179 c79→Sq 41 c77→Sq 43 c69→Sq 42 c82→Sq 215 c83→Sq 132 c84
 w87:Sq 228 c87
 w91:Sq 297 c91
 w56:Sq 386 c55→Sq 371 c56
 w73:Sq 100 c64→Sq 95 c73
 w95:Sq 296 c89→Sq 298 c95
 w96:Sq 298 c95→Sq 249 c92→Sq 247 c96
 w100:Sq 298 c95→Sq 299 c99→Sq 249 c92→Sq 251 ZyI
 w94:Sq 100 c64→Sq 248 c94
 w102:Sq 180 c98→Sq 181 ZyJ→Sq 101 ZyK
 w72:Sq 134 c70→Sq 178 c71→Sq 92 c72
 w105:Sq 46 c105
set_option maxHeartbeats 100000000 in
theorem ws3:Ws3:=by
 refine ⟨(fun q0=>Ze Zl (Zb q0 Zf) mixed {loops:=[(0,[.reg 8 (.dat Iq),.ent 3 (nat_lit 2) (.flat Zum.ety)])],draws:=[(1,[0,1,0,7,15,0,0,96,0,511,1023],.op 0 (.op 1 (.op 2 (.op 3 (.op 4 (.op 5 (.op 6 (.alt 7 (.alt 8 (.alt 9 (.op 10 (.done)) (.done)) (.done)) (.alt 8 (.alt 7 (.alt 9 (.op 10 (.done)) (.done)) (.done)) (.done)))))))))),(6,[0,0,0,0,8,0,56,120,252,508,0,1024,0,7168,15360,0,0,98304,229376,523264,1048572,2097151,4194303],.op 0 (.op 1 (.op 2 (.op 3 (.op 4 (.op 5 (.op 6 (.op 7 (.op 8 (.op 9 (.op 10 (.op 11 (.op 12 (.op 13 (.op 14 (.op 15 (.op 16 (.op 17 (.op 18 (.op 19 (.op 20 (.op 21 (.alt 22 (.done) (.done))))))))))))))))))))))))]} Tryz.func265 (hvc:=?_)),
 (Ze Zl Zf mixed {} Tryz.func376 (hvc:=?_)),
 (Ze Zl Zf mixed {} Tryz.func392 (hvc:=?_)),
 (Ze Zl Zf mixed {draws:=[(3,[0,1,0,4,0,16,60,124,252,511,1023,2047,0,4096,16383,32767,65535,131071],.op 0 (.op 1 (.op 2 (.op 3 (.op 4 (.op 5 (.op 6 (.op 7 (.op 8 (.op 9 (.op 10 (.op 11 (.op 12 (.op 13 (.op 14 (.op 15 (.op 16 (.op 17 (.done)))))))))))))))))))]} Tryz.func264 (hvc:=?_)),
 (fun q0=>Ze Zl (Zb q0 Zf) mixed {} Tryz.func305 (hvc:=?_)),
 (fun q0=>Ze Zl (Zb q0 Zf) mixed {} Tryz.func142 (hvc:=?_)),
 (fun q0 q1=>Ze Zl (Zb q0 (Zb q1 Zf)) mixed {loops:=[(0,[.reg 13 (.dat Iq),.reg 34 (.dat Iq)]),(2,[.reg 13 (.dat Iq),.reg 40 (.dat Iq)])],draws:=[(10,[0,0,2,0,8,0,32,96,248,0,512,2040,4094,8190,0,16384,65534,0,131072,524286,1048575,2097151],.op 0 (.op 1 (.op 2 (.op 3 (.op 4 (.op 5 (.op 6 (.op 7 (.op 8 (.op 9 (.op 10 (.op 11 (.op 12 (.op 13 (.op 14 (.op 15 (.op 16 (.op 17 (.op 18 (.op 19 (.op 20 (.op 21 (.done)))))))))))))))))))))))]} Tryz.func269 (hvc:=?_)),
 (fun q2 q0 q1=>Ze Zl (Zb q2 (Zb q0 (Zb q1 Zf))) mixed {loops:=[(0,[.reg 3 (.own (.ol 9 (.flat (.str)))),.reg 8 (.dat Iq)])]} Tryz.func346 (hvc:=?_)),
 (Ze Zl Zf mixed {} Tryz.func267 (hvc:=?_)),
 (fun q2 q1 q0=>Ze Zl (Zb q2 (Zb q1 (Zb q0 Zf))) mixed {} Tryz.func187 (hvc:=?_)),
 (fun q0=>Ze Zl (Zb q0 Zf) mixed {} Tryz.func266 (hvc:=?_)),
 (fun q3 q1 q4 q2 q0=>Ze XK (Zb q3 (Zb q1 (Zb q4 (Zb q2 (Zb q0 Zf))))) mixed {loops:=[(0,[.reg 4 (.dat Iq),.reg 25 (.dat Iq),.cello 1020 6 (.ol 183 (.flat (JY)))]),(2,[.reg 60 (.dat Iq),.ent 4 (nat_lit 2) (.flat Zum.ety),.ent 5 (nat_lit 35) (Dp.ol (2:Go.TypeId) (Dp.flat (Ty.int IntKind.i64)))]),(4,[.reg 88 (.dat Iq),.cello 1020 7 (.ol 2 (.flat Iq)),.cello 1020 8 (.ol 35 (.ol 2 (.flat Iq))),.cello 1020 6 (.ol (nat_lit 183) (.flat JY)),.ent 5 (nat_lit 35) (Dp.ol (2:Go.TypeId) (Dp.flat (Ty.int IntKind.i64)))]),(6,[.reg 122 (.dat Iq),.cello 1020 6 (.ol (nat_lit 183) (.flat JY))]),(8,[.reg 127 (.dat Iq),.cello 1020 6 (.ol (nat_lit 183) (.flat JY))])],draws:=[(1,[0,0,2,6,15,31,63],.op 0 (.op 1 (.op 2 (.alt 3 (.op 4 (.alt 5 (.op 6 (.done)) (.done))) (.done))))),(6,[0,0,2,6,14,0,0,0,224,510,1023,2047,4095],.op 0 (.op 1 (.op 2 (.op 3 (.op 4 (.op 5 (.op 6 (.op 7 (.alt 8 (.alt 9 (.op 10 (.op 11 (.alt 12 (.done) (.done)))) (.done)) (.done)))))))))),(16,[0,0,2,0,0,16,56,120,0,256,1016,2047,4095],.op 0 (.op 1 (.op 3 (.op 4 (.op 5 (.op 6 (.op 7 (.op 8 (.ld 2 (.alt 9 (.alt 10 (.op 11 (.alt 12 (.done) (.done))) (.done)) (.done))))))))))),(21,[0,0,2,6,14,0,0,96,224,480,992,2046,4095,8191,16383],.op 0 (.op 1 (.op 2 (.op 3 (.op 4 (.op 5 (.op 6 (.alt 7 (.op 8 (.op 9 (.alt 10 (.alt 11 (.op 12 (.op 13 (.alt 14 (.done) (.done)))) (.done)) (.done)))) (.done))))))))),(22,[0,0,2,6,14,0,0,96,224,510,1023,2047,4095],.op 0 (.op 1 (.op 2 (.op 3 (.op 4 (.op 5 (.op 6 (.alt 7 (.alt 8 (.alt 9 (.op 10 (.op 11 (.alt 12 (.done) (.done)))) (.done)) (.done)) (.done))))))))),(29,[0,0,2,6,14,0,0,96,224,480,0,2016,0,4096,0,28672,0,131040,262112,524286,1048575,2097151,4194303],.op 0 (.op 1 (.op 2 (.op 3 (.op 4 (.op 5 (.op 6 (.op 7 (.op 8 (.op 9 (.op 10 (.op 11 (.op 12 (.op 13 (.op 14 (.op 15 (.op 16 (.op 17 (.alt 18 (.alt 19 (.op 20 (.op 21 (.alt 22 (.done) (.done)))) (.done)) (.done))))))))))))))))))))]} Tryz.func110 (hvc:=?_)),
 (fun q6 q5 q7 q1 q2 q0 q3 q4=>Ze Zl (Zb q6 (Zb q5 (Zb q7 (Zb q1 (Zb q2 (Zb q0 (Zb q3 (Zb q4 Zf)))))))) mixed {} Tryz.func53 (hvc:=?_)),
 (fun q0 q1=>Ze Zl (Zb q0 (Zb q1 Zf)) mixed {} Tryz.func197 (hvc:=?_)),
 (Ze Zl Zf mixed {draws:=[(1,[0,1,3,7,0,16,48,127,255,511,1023],.op 0 (.op 1 (.op 2 (.op 3 (.op 4 (.op 5 (.op 6 (.op 7 (.op 8 (.op 9 (.op 10 (.done))))))))))))]} Tryz.func207 (hvc:=?_)),
 (fun q0=>Ze Zl (Zb q0 Zf) mixed {draws:=[(1,[0,0,2,6,15,0,0,64,192,480,992,2047,4095],.op 0 (.op 1 (.op 2 (.op 3 (.op 4 (.op 5 (.op 6 (.op 7 (.op 8 (.op 9 (.op 10 (.op 11 (.op 12 (.done)))))))))))))),(5,[0,1,0,0,12,28,0,124,255,0,0,0,0,4096,14336,30720,64512,130560,262143,0,0,1572864,3670016,0,0,16777216,58720256,125829120,267911168,524287,1073741823],.op 0 (.op 1 (.op 2 (.op 3 (.op 4 (.op 5 (.op 6 (.op 7 (.op 8 (.op 9 (.op 10 (.op 11 (.op 12 (.op 13 (.op 14 (.op 15 (.op 16 (.op 17 (.op 19 (.op 20 (.op 21 (.op 22 (.op 23 (.op 24 (.op 25 (.op 26 (.op 27 (.op 28 (.alt 18 (.op 29 (.op 30 (.done))) (.done))))))))))))))))))))))))))))))]} Tryz.func315 (hvc:=?_)),
 (fun q0=>Ze Zl (Zb q0 Zf) mixed {loops:=[(0,[.reg 5 (.dat Iq)])],draws:=[(6,[0,0,3,7,0,0,48,112,255,511],.op 0 (.op 1 (.op 2 (.op 3 (.op 4 (.op 5 (.op 6 (.op 7 (.alt 8 (.op 9 (.done)) (.done))))))))))]} Tryz.func122 (hvc:=?_)),
 (fun q0=>Ze Zl (Zb q0 Zf) mixed {loops:=[(0,[.reg 5 (.dat Iq)])],draws:=[(6,[0,0,3,7,0,0,48,112,255,511],.op 0 (.op 1 (.op 2 (.op 3 (.op 4 (.op 5 (.op 6 (.op 7 (.alt 8 (.op 9 (.done)) (.done))))))))))]} Tryz.func123 (hvc:=?_)),
 (fun q0=>Ze Zl (Zb q0 Zf) mixed {} Tryz.func59 (hvc:=?_)),
 (Ze XK Zf mixed {loops:=[(0,[.reg 1 (.dat Iq),.reg 5 (.dat Iq),.ent 0 (nat_lit 103) (.flat XJ)])]} Tryz.func66 (hvc:=?_)),
 (fun q0=>Ze Zl (Zb q0 Zf) mixed {loops:=[(0,[.reg 1 (.dat Iq),.reg 5 (.dat Iq)])]} Tryz.func86 (hvc:=?_)),
 (fun q0 q1 q2=>Ze Zl (Zb q0 (Zb q1 (Zb q2 Zf))) mixed {} Tryz.func36 (hvc:=?_)),
 (fun q0=>Ze Zl (Zb q0 Zf) mixed {loops:=[(0,[.reg 1 (.dat Iq),.reg 5 (.dat Iq)])]} Tryz.func87 (hvc:=?_)),
 (Ze Zl Zf mixed {} Tryz.func143 (hvc:=?_)),
 (Ze Zl Zf mixed {} Tryz.func39 (hvc:=?_)),
 (fun q0=>Ze Zl (Zb q0 Zf) mixed {} Tryz.func370 (hvc:=?_)),
 (fun q0 q1=>Ze Zl (Zb q0 (Zb q1 Zf)) mixed {} Tryz.func9 (hvc:=?_)),
 (Ze Zl Zf mixed {} Tryz.func12 (hvc:=?_)),
 (fun q0=>Ze Zl (Zb q0 Zf) mixed {} Tryz.func50 (hvc:=?_)),
 (Ze Zl Zf mixed {loops:=[(0,[.reg 4 (.dat Iq),.ent 0 (nat_lit 9) (.flat Zyy.ety)])]} Tryz.func105 (hvc:=?_)),
 (fun q0=>Ze XK (Zb q0 Zf) mixed {loops:=[(0,[.reg 4 (.dat Iq),.ent 0 (nat_lit 317) ZgF])]} Tryz.func345 (hvc:=?_)),
 (fun q0=>Ze XK (Zb q0 Zf) mixed {loops:=[(0,[.reg 4 (.dat Iq),.ent 0 (nat_lit 85) Znq])]} Tryz.func49 (hvc:=?_)),
 (fun q0=>Ze Zl (Zb q0 Zf) mixed {} Tryz.func375 (hvc:=?_)),
 (fun q0=>Ze Zl (Zb q0 Zf) mixed {} Tryz.func375 (hvc:=?_)),
 (fun q0=>Ze Zl (Zb q0 Zf) mixed {} Tryz.func397 (hvc:=?_)),
 (fun q0=>Ze Zl (Zb q0 Zf) mixed {} Tryz.func349 (hvc:=?_)),
 (fun q0=>Ze Zl (Zb q0 Zf) mixed {loops:=[(0,[.reg 8 (.dat Iq)])]} Tryz.func219 (hvc:=?_)),
 (Ze Zl Zf mixed {} Tryz.func382 (hvc:=?_)),
 (fun q0 q1 q2=>Ze Zl (Zb q0 (Zb q1 (Zb q2 Zf))) mixed {loops:=[(0,[.reg 3 (.dat Iq)])],draws:=[(6,[0,1,0,7,15,0,32,0,224,480,1023,2047],.op 0 (.op 1 (.op 2 (.op 3 (.op 4 (.op 5 (.op 6 (.op 7 (.alt 8 (.op 9 (.alt 10 (.op 11 (.done)) (.done))) (.done))))))))))]} Tryz.func90 (hvc:=?_)),
 (fun q0=>Ze Zl (Zb q0 Zf) mixed {loops:=[(0,[.reg 3 (.dat Iq)]),(2,[.reg 4 (.dat Iq)])],draws:=[(9,[0,1,0,7,15,31,0,64,0,448,960,1984,4095],.op 0 (.op 1 (.op 2 (.op 3 (.op 4 (.op 5 (.op 6 (.op 7 (.op 8 (.op 9 (.op 10 (.op 11 (.op 12 (.done))))))))))))))]} Tryz.func242 (hvc:=?_)),
 (fun q0=>Ze Zl (Zb q0 Zf) mixed {loops:=[(0,[.reg 6 (.dat Iq)]),(2,[.reg 7 (.dat Iq)])]} Tryz.func175 (hvc:=?_)),
 (fun q3 q0 q1 q4 q2=>Ze Zl (Zb q3 (Zb q0 (Zb q1 (Zb q4 (Zb q2 Zf))))) mixed {} Tryz.func132 (hvc:=?_)),
 (Ze Zl Zf mixed {} Tryz.func228 (hvc:=?_)),
 (Ze Zl Zf mixed {loops:=[(0,[.reg 8 (.dat Iq)])],draws:=[(10,[0,0,0,4,14,30,0,126,0,0,0,1536,3584,7936,1,16639,65535],.op 0 (.op 1 (.op 2 (.op 3 (.op 4 (.op 5 (.op 6 (.op 7 (.op 8 (.op 9 (.op 10 (.op 11 (.op 12 (.op 13 (.op 14 (.op 15 (.op 16 (.done))))))))))))))))))]} Tryz.func297 (hvc:=?_)),
 (fun q0=>Ze Zl (Zb q0 Zf) mixed {loops:=[(0,[.reg 5 (.dat Iq)])]} Tryz.func371 (hvc:=?_)),
 (fun q0=>Ze Zl (Zb q0 Zf) mixed {loops:=[(0,[.reg 8 (.dat Iq)])]} Tryz.func95 (hvc:=?_)),
 (fun q0=>Ze Zl (Zb q0 Zf) mixed {loops:=[(0,[.reg 7 (.own (.ol 2 (.flat Iq))),.reg 8 (.dat Iq)])],draws:=[(7,[0,0,0,4,0,28,60,126,254,0,512,0,3584,7680,0,0,49152,114688,261632,524286,1048574,2097151,4194303],.op 0 (.op 1 (.op 2 (.op 3 (.op 4 (.op 5 (.op 6 (.op 7 (.op 8 (.op 9 (.op 10 (.op 11 (.op 12 (.op 13 (.op 14 (.op 15 (.op 16 (.op 17 (.op 18 (.op 19 (.alt 20 (.alt 21 (.op 22 (.done)) (.done)) (.done))))))))))))))))))))))]} Tryz.func298 (hvc:=?_)),
 (fun q0 q1=>Ze Zl (Zb q0 (Zb q1 Zf)) mixed {loops:=[(0,[.reg 8 (.own (.ol 2 (.flat Iq))),.reg 9 (.dat Iq)])]} Tryz.func247 (hvc:=?_)),
 (fun q0 q1 q2=>Ze Zl (Zb q0 (Zb q1 (Zb q2 Zf))) mixed {draws:=[(1,[0,0,3,0,8,0,56,120,248,0,1016,2040,4095,8191,16383],.op 0 (.op 1 (.op 3 (.op 4 (.op 5 (.op 6 (.op 7 (.op 8 (.op 9 (.op 10 (.op 11 (.alt 2 (.op 12 (.op 13 (.op 14 (.done)))) (.done)))))))))))))]} Tryz.func251 (hvc:=?_)),
 (fun q0=>Ze Zl (Zb q0 Zf) mixed {draws:=[(1,[0,1,3,0,8,24,63,127,255,511],.op 0 (.op 1 (.op 3 (.op 4 (.op 5 (.alt 2 (.op 6 (.op 7 (.op 8 (.op 9 (.done))))) (.done)))))))]} Tryz.func248 (hvc:=?_)),
 (fun q0 q1=>Ze Zl (Zb q0 (Zb q1 Zf)) mixed {draws:=[(1,[0,0,0,0,8,31,0,0,0,0,512,2047,4095,0,16383],.op 0 (.op 1 (.op 2 (.op 3 (.op 4 (.op 6 (.op 7 (.op 8 (.op 9 (.op 10 (.alt 5 (.alt 11 (.op 12 (.alt 13 (.alt 14 (.done) (.done)) (.done))) (.alt 13 (.alt 11 (.op 12 (.alt 14 (.done) (.done))) (.done)) (.done))) (.alt 13 (.alt 5 (.alt 11 (.op 12 (.alt 14 (.done) (.done))) (.done)) (.done)) (.done))))))))))))),(2,[0,0,0,4,15,0,0,0,128,511,1023,0,4095],.op 0 (.op 1 (.op 2 (.op 3 (.op 5 (.op 6 (.op 7 (.op 8 (.alt 4 (.alt 9 (.op 10 (.alt 11 (.alt 12 (.done) (.done)) (.done))) (.alt 11 (.alt 9 (.op 10 (.alt 12 (.done) (.done))) (.done)) (.done))) (.alt 11 (.alt 4 (.alt 9 (.op 10 (.alt 12 (.done) (.done))) (.done)) (.done)) (.done))))))))))),(3,[0,1,0,0,0,0,32,124,255,511,1023],.op 0 (.op 1 (.op 2 (.op 3 (.op 4 (.op 5 (.op 6 (.alt 7 (.op 8 (.op 9 (.alt 10 (.done) (.done)))) (.done))))))))),(4,[0,1,0,0,0,0,32,124,255,511,1023],.op 0 (.op 1 (.op 2 (.op 3 (.op 4 (.op 5 (.op 6 (.alt 7 (.op 8 (.op 9 (.alt 10 (.done) (.done)))) (.done))))))))),(5,[0,1,0,0,0,16,60,127,255,511],.op 0 (.op 1 (.op 2 (.op 3 (.op 4 (.op 5 (.alt 6 (.op 7 (.op 8 (.alt 9 (.done) (.done)))) (.done)))))))),(6,[0,1,0,0,0,16,60,127,255,511],.op 0 (.op 1 (.op 2 (.op 3 (.op 4 (.op 5 (.alt 6 (.op 7 (.op 8 (.alt 9 (.done) (.done)))) (.done)))))))),(7,[0,0,1,7],.op 0 (.alt 1 (.alt 2 (.alt 3 (.done) (.done)) (.done)) (.alt 2 (.alt 1 (.alt 3 (.done) (.done)) (.done)) (.done))))]} Tryz.func101 (hvc:=?_)),
 (fun q1 q0=>Ze Zl (Zb q1 (Zb q0 Zf)) mixed {loops:=[(0,[.reg 5 (.dat Iq)])]} Tryz.func92 (hvc:=?_)),
 (Ze Zl Zf mixed {draws:=[(1,[0,0,2,7,0,0,32,127,0,0,512,2047,4095,8191],.op 1 (.op 2 (.op 5 (.op 9 (.ld 6 (.ld 10 (.alt 0 (.alt 3 (.alt 4 (.alt 7 (.alt 8 (.alt 11 (.op 12 (.alt 13 (.done) (.done))) (.done)) (.done)) (.alt 8 (.alt 7 (.alt 11 (.op 12 (.alt 13 (.done) (.done))) (.done)) (.done)) (.done))) (.alt 8 (.alt 4 (.alt 7 (.alt 11 (.op 12 (.alt 13 (.done) (.done))) (.done)) (.done)) (.done)) (.done))) (.alt 4 (.alt 3 (.alt 7 (.alt 8 (.alt 11 (.op 12 (.alt 13 (.done) (.done))) (.done)) (.done)) (.alt 8 (.alt 7 (.alt 11 (.op 12 (.alt 13 (.done) (.done))) (.done)) (.done)) (.done))) (.alt 8 (.alt 3 (.alt 7 (.alt 11 (.op 12 (.alt 13 (.done) (.done))) (.done)) (.done)) (.done)) (.done))) (.alt 8 (.alt 3 (.alt 4 (.alt 7 (.alt 11 (.op 12 (.alt 13 (.done) (.done))) (.done)) (.done)) (.done)) (.alt 4 (.alt 3 (.alt 7 (.alt 11 (.op 12 (.alt 13 (.done) (.done))) (.done)) (.done)) (.done)) (.done))) (.done)))) (.alt 4 (.alt 0 (.alt 3 (.alt 7 (.alt 8 (.alt 11 (.op 12 (.alt 13 (.done) (.done))) (.done)) (.done)) (.alt 8 (.alt 7 (.alt 11 (.op 12 (.alt 13 (.done) (.done))) (.done)) (.done)) (.done))) (.alt 8 (.alt 3 (.alt 7 (.alt 11 (.op 12 (.alt 13 (.done) (.done))) (.done)) (.done)) (.done)) (.done))) (.alt 8 (.alt 0 (.alt 3 (.alt 7 (.alt 11 (.op 12 (.alt 13 (.done) (.done))) (.done)) (.done)) (.done)) (.done)) (.done))) (.alt 8 (.alt 0 (.alt 3 (.alt 4 (.alt 7 (.alt 11 (.op 12 (.alt 13 (.done) (.done))) (.done)) (.done)) (.done)) (.alt 4 (.alt 3 (.alt 7 (.alt 11 (.op 12 (.alt 13 (.done) (.done))) (.done)) (.done)) (.done)) (.done))) (.alt 4 (.alt 0 (.alt 3 (.alt 7 (.alt 11 (.op 12 (.alt 13 (.done) (.done))) (.done)) (.done)) (.done)) (.done)) (.done))) (.done))))))))))]} Tryz.func46 (hvc:=?_))⟩
 all_goals
  intro a
  repeat rcases a with ⟨_,a⟩
  rintro K ⟨r,h,hK⟩
  repeat'
    conv=>whnf
    first
    | with_reducible refine Ztc ?_
    | with_reducible refine Zfq (by assumption) (by assumption) (by assumption) ?_
    | with_reducible refine ZhT (by assumption) ?_
    | with_reducible refine Zfr (by assumption) ?_
    | (with_reducible refine shD ?_);first | refine Zpf h (fun h=>?_) (fun h=>?_) | refine ZsB h (fun h=>?_) (fun h=>?_)
    | (with_reducible refine ZtW ?_);first | refine Zun ?_ | refine Zkg ?_
    | (with_reducible refine ZxM ?_);first | refine ZrY h (fun h=>?_) (fun h=>?_) | refine Zub h (fun h=>?_) (fun h=>?_)
    | (with_reducible refine ZtV ?_);(refine ⟨fun hd=>?_,?_⟩)<;>try subst hd
    | (with_reducible refine ZxO ?_);first | with_reducible refine Zbe h (fun x hb h=>?_) | refine Zfr (by assumption) ?_ | with_reducible refine pG h (fun hp h=>?_) | with_reducible refine pA h (fun x ha hb hx h=>?_) | with_reducible refine pB h (fun x hb h=>?_) | refine Zbe h (fun x hb h=>?_)
    | (with_reducible refine ZxL ?_);first | with_reducible refine vAt h (fun x ha hb hx h=>?_) | refine Zfq (by assumption) (by assumption) (by assumption) ?_ | with_reducible refine pG h (fun hp h=>?_) | with_reducible refine pA h (fun x ha hb hx h=>?_) | with_reducible refine pB h (fun x hb h=>?_) | refine vAt h (fun x ha hb hx h=>?_)
    | (with_reducible refine ZtU ?_);first | with_reducible refine ZnZ h (fun x hb h=>?_) | refine ZhT (by assumption) ?_ | with_reducible refine pG h (fun hp h=>?_) | with_reducible refine pA h (fun x ha hb hx h=>?_) | with_reducible refine pB h (fun x hb h=>?_) | refine ZnZ h (fun x hb h=>?_)
    | with_reducible refine ZxN ?_
    | (with_reducible refine Zp0 ?_);refine Zqi h hK ?_;clear h hK;intro I μ v r h hK;(repeat rcases v with ⟨_,v⟩);(try dsimp only at h)
    | with_reducible refine ⟨by assumption,?_⟩
    | with_reducible refine orL ?_
    | with_reducible refine .inr ?_
    | (with_reducible refine ZtX ?_);first | refine ⟨?_,True.intro⟩ | refine ⟨?_,?_⟩
    | refine ⟨by kernel_rfl,?_⟩
    | refine ⟨by decide,?_⟩
    | with_reducible refine Zuo h (fun hp h=>?_)
    | intro fp
    | exact trivial
    | with_reducible exact Zs5 h
    | (refine pS h (fun e=>?_));subst e;(repeat (first | exact hK | exact ⟨⟨rfl,rfl⟩,hK.1 _ rfl⟩ | (refine pR hK (fun e hK=>?_));subst e));done
    | refine Zuo h (fun hp h=>?_)
    | refine ⟨by assumption,?_⟩
    | with_reducible refine pG h (fun hp h=>?_) | with_reducible refine pA h (fun x ha hb hx h=>?_) | with_reducible refine pB h (fun x hb h=>?_)
    | refine pG h (fun hp h=>?_)
    | fail
end Go.Proofs.YtclfgjepbamnlaaGreatDoor
