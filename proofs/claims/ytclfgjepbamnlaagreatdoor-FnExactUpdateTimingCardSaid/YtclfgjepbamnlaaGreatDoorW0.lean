/-
  The functions keep their contracts, if what they call does. Printed by program.
-/
import Derived.Test.YtclfgjepbamnlaaGreatDoorM
import Derived.KernelRfl
namespace Go.Proofs.YtclfgjepbamnlaaGreatDoor
open Go Go.Sx
set_option maxRecDepth 100000
set_option maxHeartbeats 6400000
set_option linter.unusedVariables false
set_option linter.unusedSimpArgs false
structure Ws0:Prop where
 w172:Sq 237 Zyg→Sq 163 Zzc→Sq 236 Zzg→Sq 264 c171→Sq 191 Zzh
 w142:Sq 392 Zy5
 w136:Sq 377 Zy1→Sq 217 ZyO→Sq 390 Zy2
 w135:Sq 373 Zxj→Sq 377 Zy1
 w166:Sq 187 ZyP→Sq 188 Zze→Sq 109 Zzf
 w214:Sq 204 c213→Sq 118 ZzD
 w201:Sq 137 Zzx→Sq 138 Zzy→Sq 70 c201
 w116:Sq 187 ZyP→Sq 349 ZyR→Sq 303 c116
 w205:Sq 205 Zyi→Sq 198 ZzA
 w190:Sq 199 Zzs
 w233:Sq 54 Zzj→Sq 139 c203→Sq 119 c206→Sq 140 ZzC→Sq 55 c232→Sq 142 Zzl→Sq 71 c233
 w124:Sq 136 c124
 w112:Sq 217 ZyO→Sq 261 Ziw→Sq 262 Zev→Sq 187 ZyP
 w150:Sq 304 Zy8
 w227:Sq 316 c227
 w198:Sq 54 Zzj→Sq 135 ZyU→Sq 136 c124→Sq 69 c198
 w226:Sq 207 ZzE→Sq 268 ZzF→Sq 269 ZzK→Sq 270 c222→Sq 272 ZzL→Sq 271 ZzM→Sq 206 c226
 w187:Sq 54 Zzj→Sq 217 ZyO→Sq 197 Zzp
 w177:Sq 116 Zzi→Sq 54 Zzj
 w229:Sq 207 ZzE→Sq 268 ZzF→Sq 269 ZzK→Sq 273 c228→Sq 208 c229
 w235:Sq 60 ZzP
 w247:Sq 209 ZzY→Sq 122 ZvH
 w249:Sq 17 ZzS→Sq 210 ZvI
 w252:Sq 211 Zz2
 w243:Sq 383 ZzU→Sq 356 ZzV
 w277:Sq 72 ZGt
 w274:Sq 65 ZGq
 w261:Sq 212 ZAa→Sq 213 ZAb
 w275:Sq 66 ZGr
 w268:Sq 212 ZAa→Sq 129 ZGk
 w271:Sq 22 ZAc→Sq 64 ZGn
 w9:Sq 86 c8→Sq 35 c9
 w0:Sq 293 c0
 w1:Sq 293 c0→Sq 240 c1
 w22:Sq 39 c22
 w31:Sq 252 c25→Sq 253 c30→Sq 13 c26→Sq 182 c31
 w32:Sq 182 c31→Sq 103 c32
 w39:Sq 104 c35→Sq 105 c36→Sq 106 c38→Sq 48 c39
 w34:Sq 13 c26→Sq 183 c34
 w44:Sq 107 c44
 w28:Sq 372 c27→Sq 345 c28
 w199:Sq 137 Zzx
 w169:Sq 237 Zyg
 w122:Sq 219 Zye→Sq 140 ZyT
 w133:Sq 402 Zxk→Sq 401 ZyZ
 w129:Sq 398 ZyX→Sq 404 ZyY
 w154:Sq 305 Zza→Sq 219 c154
 w158:Sq 259 c157→Sq 306 Zw4
 w219:Sq 382 ZzH
 w110:Sq 40 c86→Sq 67 c87→Sq 68 c109→Sq 26 Zyd
 w95:Sq 249 c95
 w51:Sq 176 c51
 w94:Sq 297 c94
 w50:Sq 177 c50
 w56:Sq 386 c55→Sq 371 c56
 w91:Sq 344 c91
 w73:Sq 100 c64→Sq 95 c73
 w62:Sq 177 c50→Sq 244 c62
 w98:Sq 296 c92→Sq 298 c98
 w82:Sq 99 c81→Sq 42 c82
 w78:Sq 176 c51→Sq 131 c78
 w100:Sq 250 ZyI
 w104:Sq 245 c93→Sq 246 c96→Sq 248 c97→Sq 251 ZyL→Sq 181 ZyM
 w106:Sq 102 ZyN
 w105:Sq 180 ZyJ→Sq 181 ZyM→Sq 101 c105
 w72:Sq 134 c70→Sq 178 c71→Sq 92 c72
 w109:Sq 41 c77→Sq 42 c82→Sq 132 c84→Sq 46 c88→Sq 43 c69→Sq 133 c89→Sq 44 c107→Sq 134 c70→Sq 45 Zqk→Sq 68 c109
set_option maxHeartbeats 100000000 in
theorem ws0:Ws0:=by
 refine ⟨(fun q0 q1 q2 q3=>Ze Zl (Zb q0 (Zb q1 (Zb q2 (Zb q3 Zf)))) mixed {loops:=[(0,[.reg 27 (.dat Iq),.ent 2 (nat_lit 2) (.flat (Ty.int IntKind.i64))]),(2,[.reg 10 (.dat Iq),.ent 2 (nat_lit 2) (.flat (Ty.int IntKind.i64))])],draws:=[(7,[0,0,2,0,14,30,63,127,0,256,0,1024,0,0,12288,28672,65280,131071,262143,524287],.op 0 (.op 1 (.op 2 (.op 3 (.op 4 (.op 5 (.op 6 (.op 7 (.op 8 (.op 9 (.op 10 (.op 11 (.op 12 (.op 13 (.op 14 (.op 15 (.alt 16 (.op 17 (.op 18 (.alt 19 (.done) (.done)))) (.done)))))))))))))))))),(12,[0,0,2,0,14,30,63,127,0,0,768,1792,4095,8191,16383],.op 0 (.op 1 (.op 2 (.op 3 (.op 4 (.op 5 (.op 6 (.op 7 (.op 8 (.op 9 (.op 10 (.op 11 (.op 12 (.op 13 (.alt 14 (.done) (.done))))))))))))))))]} Tryz.func191 (hvc:=?_)),
 (Ze Zl Zf mixed {} Tryz.func392 (hvc:=?_)),
 (fun q0 q1=>Ze Zl (Zb q0 (Zb q1 Zf)) mixed {} Tryz.func390 (hvc:=?_)),
 (fun q0=>Ze Zl (Zb q0 Zf) mixed {} Tryz.func377 (hvc:=?_)),
 (fun q1 q0=>Ze Zl (Zb q1 (Zb q0 Zf)) mixed {} Tryz.func109 (hvc:=?_)),
 (fun q0=>Ze Zl (Zb q0 Zf) mixed {draws:=[(2,[0,0,0,0,0,1,33,107,235,491,1023,2047,4095],.op 0 (.op 1 (.op 2 (.op 5 (.alt 3 (.alt 4 (.alt 6 (.op 7 (.op 8 (.alt 9 (.op 10 (.op 11 (.alt 12 (.done) (.done)))) (.done)))) (.done)) (.alt 6 (.op 7 (.op 8 (.alt 4 (.alt 9 (.op 10 (.op 11 (.alt 12 (.done) (.done)))) (.done)) (.alt 9 (.alt 4 (.op 10 (.op 11 (.alt 12 (.done) (.done)))) (.done)) (.done))))) (.done))) (.alt 4 (.alt 3 (.alt 6 (.op 7 (.op 8 (.alt 9 (.op 10 (.op 11 (.alt 12 (.done) (.done)))) (.done)))) (.done)) (.alt 6 (.alt 3 (.op 7 (.op 8 (.alt 9 (.op 10 (.op 11 (.alt 12 (.done) (.done)))) (.done)))) (.done)) (.done))) (.alt 6 (.alt 3 (.op 7 (.op 8 (.alt 4 (.alt 9 (.op 10 (.op 11 (.alt 12 (.done) (.done)))) (.done)) (.alt 9 (.alt 4 (.op 10 (.op 11 (.alt 12 (.done) (.done)))) (.done)) (.done))))) (.alt 4 (.alt 3 (.op 7 (.op 8 (.alt 9 (.op 10 (.op 11 (.alt 12 (.done) (.done)))) (.done)))) (.done)) (.done))) (.done)))))))),(3,[0,0,0,4,12,28,0,124,0,256,768,1792,0,8188,16381,32765,65533,131071,262143,524287],.op 0 (.op 1 (.op 2 (.op 3 (.op 4 (.op 5 (.op 6 (.op 8 (.op 9 (.op 10 (.op 11 (.op 12 (.alt 7 (.alt 13 (.op 14 (.op 15 (.alt 16 (.op 17 (.op 18 (.alt 19 (.done) (.done)))) (.done)))) (.done)) (.done))))))))))))))]} Tryz.func118 (hvc:=?_)),
 (fun q1 q0=>Ze Zl (Zb q1 (Zb q0 Zf)) mixed {draws:=[(1,[0,1,3,0,8,31,0,64,255,511,1023],.op 0 (.op 1 (.op 3 (.op 4 (.op 6 (.op 7 (.alt 2 (.alt 5 (.alt 8 (.op 9 (.alt 10 (.done) (.done))) (.done)) (.done)) (.done))))))))]} Tryz.func70 (hvc:=?_)),
 (fun q1 q0=>Ze Zl (Zb q1 (Zb q0 Zf)) mixed {loops:=[(0,[.reg 7 (.dat Iq)])]} Tryz.func303 (hvc:=?_)),
 (fun q0=>Ze Zl (Zb q0 Zf) mixed {loops:=[(0,[.reg 5 (.own (.ol 2 (.flat Iq))),.reg 16 (.dat Iq)])]} Tryz.func198 (hvc:=?_)),
 (Ze Zl Zf mixed {} Tryz.func199 (hvc:=?_)),
 (fun q3 q1 q4 q0 q2 q5=>Ze XK (Zb q3 (Zb q1 (Zb q4 (Zb q0 (Zb q2 (Zb q5 Zf)))))) mixed {loops:=[(0,[.reg 15 (.own (.ol 2 (.flat Iq))),.reg 28 (.dat Iq),.ent 0 (nat_lit 4) (.flat Ty.bool),.ent 1 (nat_lit 103) (.flat XJ),.ent 2 (nat_lit 103) (.flat XJ),.ent 6 (nat_lit 4) (.flat Zvy.ety)])],draws:=[(11,[0,0,0,0,8,0,56,120,252,508,1020,2044,1020,5116,1020,29692,62460,131068,262140,524284,1048572,2097148,1048572,5242876,1048572,30408700,63963132,134217724,268435452,536870911,1073741823],.op 0 (.op 1 (.op 2 (.op 3 (.op 4 (.op 5 (.op 6 (.op 7 (.op 8 (.op 9 (.op 10 (.op 11 (.op 12 (.op 13 (.op 14 (.op 15 (.op 16 (.op 17 (.op 18 (.op 19 (.op 20 (.op 21 (.op 22 (.op 23 (.op 24 (.op 25 (.op 26 (.op 27 (.op 28 (.op 29 (.alt 30 (.done) (.done)))))))))))))))))))))))))))))))),(12,[0,1,0,0,8,0,0,64,0,0,0,1024,0,4096,519,16903,52799,118335,262143,524287],.op 0 (.op 1 (.op 2 (.op 3 (.op 5 (.op 6 (.op 8 (.op 9 (.op 10 (.op 12 (.op 14 (.ld 4 (.ld 7 (.ld 11 (.ld 13 (.alt 15 (.op 16 (.alt 17 (.op 18 (.alt 19 (.done) (.done))) (.done))) (.done)))))))))))))))))]} Tryz.func71 (hvc:=?_)),
 (Ze Zl Zf mixed {loops:=[(0,[.reg 3 (.dat Iq)])],draws:=[(4,[0,0,2,7,15,0,0,96,224,511],.op 0 (.op 1 (.op 2 (.op 3 (.op 4 (.op 5 (.op 6 (.op 7 (.op 8 (.op 9 (.done)))))))))))]} Tryz.func136 (hvc:=?_)),
 (fun q2 q1 q0=>Ze Zl (Zb q2 (Zb q1 (Zb q0 Zf))) mixed {} Tryz.func187 (hvc:=?_)),
 (Ze Zl Zf mixed {} Tryz.func304 (hvc:=?_)),
 (Ze Zl Zf mixed {loops:=[(0,[.reg 3 (.dat Iq),.reg 4 (.dat Iq)])]} Tryz.func316 (hvc:=?_)),
 (fun q1 q2 q0=>Ze Zl (Zb q1 (Zb q2 (Zb q0 Zf))) mixed {} Tryz.func69 (hvc:=?_)),
 (fun q2 q3 q1 q4 q0 q5=>Ze Zl (Zb q2 (Zb q3 (Zb q1 (Zb q4 (Zb q0 (Zb q5 Zf)))))) mixed {draws:=[(5,[0,0,3,7,0,16,48,127,255,0,0,1024,3072,7168,0,31744,64512,0,262143,524287],.op 0 (.op 1 (.op 4 (.op 5 (.op 6 (.op 9 (.op 10 (.op 11 (.op 12 (.op 13 (.op 14 (.op 15 (.op 16 (.op 17 (.alt 2 (.op 3 (.op 7 (.op 8 (.alt 18 (.op 19 (.done)) (.done))))) (.done)))))))))))))))),(6,[0,1,3,7,0,31,63,0,128,511,1023,0,4095,8191],.op 0 (.op 1 (.op 2 (.op 3 (.op 4 (.op 5 (.op 6 (.op 7 (.op 8 (.op 9 (.op 10 (.op 11 (.alt 12 (.op 13 (.done)) (.done))))))))))))))]} Tryz.func206 (hvc:=?_)),
 (fun q0 q1=>Ze Zl (Zb q0 (Zb q1 Zf)) mixed {} Tryz.func197 (hvc:=?_)),
 (fun q0=>Ze Zl (Zb q0 Zf) mixed {} Tryz.func54 (hvc:=?_)),
 (fun q1 q2 q0 q3=>Ze Zl (Zb q1 (Zb q2 (Zb q0 (Zb q3 Zf)))) mixed {draws:=[(4,[0,0,3,7,0,16,48,127,255,0,0,1024,3072,7168,0,31744,64512,0,262143,524287,1048575],.op 0 (.op 1 (.op 4 (.op 5 (.op 6 (.op 9 (.op 10 (.op 11 (.op 12 (.op 13 (.op 14 (.op 15 (.op 16 (.op 17 (.alt 2 (.op 3 (.op 7 (.op 8 (.alt 18 (.op 19 (.op 20 (.done))) (.done))))) (.done)))))))))))))))),(5,[0,0,2,6,14,0,62,126,0,256,1022,2046,0,8191,16383,32767],.op 0 (.op 1 (.op 2 (.op 3 (.op 4 (.op 5 (.op 6 (.op 7 (.op 8 (.op 9 (.op 10 (.op 11 (.op 12 (.alt 13 (.op 14 (.op 15 (.done))) (.done)))))))))))))))]} Tryz.func208 (hvc:=?_)),
 (Ze Zl Zf mixed {loops:=[(0,[.reg 5 (.dat Iq)])],draws:=[(6,[0,0,3,7,0,0,48,112,255],.op 0 (.op 1 (.op 2 (.op 3 (.op 4 (.op 5 (.op 6 (.op 7 (.op 8 (.done))))))))))]} Tryz.func60 (hvc:=?_)),
 (fun q0=>Ze Zl (Zb q0 Zf) mixed {loops:=[(0,[.reg 5 (.dat Iq)])],draws:=[(6,[0,0,3,7,0,0,48,112,255,511],.op 0 (.op 1 (.op 2 (.op 3 (.op 4 (.op 5 (.op 6 (.op 7 (.alt 8 (.op 9 (.done)) (.done))))))))))]} Tryz.func122 (hvc:=?_)),
 (fun q0=>Ze Zl (Zb q0 Zf) mixed {} Tryz.func210 (hvc:=?_)),
 (Ze Zl Zf mixed {} Tryz.func211 (hvc:=?_)),
 (fun q0=>Ze Zl (Zb q0 Zf) mixed {loops:=[(0,[.reg 5 (.dat Iq)])],draws:=[(6,[0,0,3,7,0,0,48,112,255,511],.op 0 (.op 1 (.op 2 (.op 3 (.op 4 (.op 5 (.op 6 (.op 7 (.alt 8 (.op 9 (.done)) (.done))))))))))]} Tryz.func356 (hvc:=?_)),
 (Ze Zl Zf mixed {loops:=[(0,[.reg 1 (.dat Iq),.reg 5 (.dat Iq)])]} Tryz.func72 (hvc:=?_)),
 (Ze XK Zf mixed {loops:=[(0,[.reg 1 (.dat Iq),.reg 5 (.dat Iq),.ent 0 (nat_lit 4) (.flat Ty.bool)])]} Tryz.func65 (hvc:=?_)),
 (fun q0=>Ze XK (Zb q0 Zf) mixed {loops:=[(0,[.reg 1 (.dat Iq),.reg 5 (.dat Iq),.ent 0 (nat_lit 340) (.flat Zdx)])]} Tryz.func213 (hvc:=?_)),
 (Ze XK Zf mixed {loops:=[(0,[.reg 1 (.dat Iq),.reg 5 (.dat Iq),.ent 0 (nat_lit 103) (.flat XJ)])]} Tryz.func66 (hvc:=?_)),
 (fun q0=>Ze XK (Zb q0 Zf) mixed {loops:=[(0,[.reg 1 (.dat Iq),.reg 5 (.dat Iq),.ent 0 (nat_lit 9) (.flat Ty.str)])]} Tryz.func129 (hvc:=?_)),
 (fun q0=>Ze XK (Zb q0 Zf) mixed {loops:=[(0,[.reg 1 (.dat Iq),.reg 5 (.dat Iq),.ent 0 (nat_lit 85) (Dp.pair (Dp.ol (2:Go.TypeId) (Dp.flat (Ty.int IntKind.i64))) (Dp.pair (Dp.ol (2:Go.TypeId) (Dp.flat (Ty.int IntKind.i64))) (Dp.pair (Dp.ol (2:Go.TypeId) (Dp.flat (Ty.int IntKind.i64))) (Dp.pair (Dp.ol (2:Go.TypeId) (Dp.flat (Ty.int IntKind.i64))) (Dp.flat Ty.unit)))))])]} Tryz.func64 (hvc:=?_)),
 (fun q0=>Ze Zl (Zb q0 Zf) mixed {} Tryz.func35 (hvc:=?_)),
 (Ze Zl Zf mixed {} Tryz.func293 (hvc:=?_)),
 (fun q0=>Ze Zl (Zb q0 Zf) mixed {loops:=[(0,[.reg 1 (.dat Iq),.reg 5 (.dat Iq)])]} Tryz.func240 (hvc:=?_)),
 (Ze Zl Zf mixed {} Tryz.func39 (hvc:=?_)),
 (fun q1 q2 q0=>Ze XK (Zb q1 (Zb q2 (Zb q0 Zf))) mixed {} Tryz.func182 (hvc:=?_)),
 (fun q0=>Ze XK (Zb q0 Zf) mixed {loops:=[(0,[.reg 4 (.dat Iq),.ent 0 (nat_lit 168) ZoA])]} Tryz.func103 (hvc:=?_)),
 (fun q0 q1 q2=>Ze XK (Zb q0 (Zb q1 (Zb q2 Zf))) mixed {} Tryz.func48 (hvc:=?_)),
 (fun q0=>Ze Zl (Zb q0 Zf) mixed {} Tryz.func183 (hvc:=?_)),
 (Ze Zl Zf mixed {} Tryz.func107 (hvc:=?_)),
 (fun q0=>Ze XK (Zb q0 Zf) mixed {loops:=[(0,[.reg 4 (.dat Iq),.ent 0 (nat_lit 317) ZgF])]} Tryz.func345 (hvc:=?_)),
 (Ze Zl Zf mixed {} Tryz.func137 (hvc:=?_)),
 (Ze Zl Zf mixed {} Tryz.func237 (hvc:=?_)),
 (fun q0=>Ze Zl (Zb q0 Zf) mixed {} Tryz.func140 (hvc:=?_)),
 (fun q0=>Ze Zl (Zb q0 Zf) mixed {loops:=[(0,[.reg 8 (.dat Iq)])]} Tryz.func401 (hvc:=?_)),
 (fun q0=>Ze Zl (Zb q0 Zf) mixed {loops:=[(0,[.reg 8 (.dat Iq)])]} Tryz.func404 (hvc:=?_)),
 (fun q0=>Ze Zl (Zb q0 Zf) mixed {loops:=[(0,[.reg 8 (.dat Iq)])]} Tryz.func219 (hvc:=?_)),
 (fun q0=>Ze Zl (Zb q0 Zf) mixed {loops:=[(0,[.reg 8 (.dat Iq)])]} Tryz.func306 (hvc:=?_)),
 (Ze Zl Zf mixed {} Tryz.func382 (hvc:=?_)),
 (fun q2 q1 q0=>Ze Zl (Zb q2 (Zb q1 (Zb q0 Zf))) mixed {} Tryz.func26 (hvc:=?_)),
 (Ze Zl Zf mixed {} Tryz.func249 (hvc:=?_)),
 (Ze Zl Zf mixed {} Tryz.func176 (hvc:=?_)),
 (Ze Zl Zf mixed {loops:=[(0,[.reg 8 (.dat Iq)])],draws:=[(10,[0,0,0,4,14,30,0,126,0,0,0,1536,3584,7936,1,16639,65535],.op 0 (.op 1 (.op 2 (.op 3 (.op 4 (.op 5 (.op 6 (.op 7 (.op 8 (.op 9 (.op 10 (.op 11 (.op 12 (.op 13 (.op 14 (.op 15 (.op 16 (.done))))))))))))))))))]} Tryz.func297 (hvc:=?_)),
 (Ze Zl Zf mixed {loops:=[(0,[.reg 3 (.dat Iq)])]} Tryz.func177 (hvc:=?_)),
 (fun q0=>Ze Zl (Zb q0 Zf) mixed {loops:=[(0,[.reg 5 (.dat Iq)])]} Tryz.func371 (hvc:=?_)),
 (Ze Zl Zf mixed {draws:=[(3,[0,1,0,4,0,16,60,124,252,511,1023,2047,0,4096,16383,32767,65535,131071],.op 0 (.op 1 (.op 2 (.op 3 (.op 4 (.op 5 (.op 6 (.op 7 (.op 8 (.op 9 (.op 10 (.op 11 (.op 12 (.op 13 (.op 14 (.op 15 (.op 16 (.op 17 (.done)))))))))))))))))))]} Tryz.func344 (hvc:=?_)),
 (fun q0=>Ze Zl (Zb q0 Zf) mixed {loops:=[(0,[.reg 8 (.dat Iq)])]} Tryz.func95 (hvc:=?_)),
 (fun q0=>Ze Zl (Zb q0 Zf) mixed {loops:=[(0,[.reg 3 (.dat Iq)]),(2,[.reg 4 (.dat Iq)])],draws:=[(9,[0,0,3,7,0,0,48,112,255],.op 0 (.op 1 (.op 2 (.op 3 (.op 4 (.op 5 (.op 6 (.op 7 (.op 8 (.done))))))))))]} Tryz.func244 (hvc:=?_)),
 (fun q0=>Ze Zl (Zb q0 Zf) mixed {loops:=[(0,[.reg 7 (.own (.ol 2 (.flat Iq))),.reg 8 (.dat Iq)])],draws:=[(7,[0,0,0,4,0,28,60,126,254,0,512,0,3584,7680,0,0,49152,114688,261632,524286,1048574,2097151,4194303],.op 0 (.op 1 (.op 2 (.op 3 (.op 4 (.op 5 (.op 6 (.op 7 (.op 8 (.op 9 (.op 10 (.op 11 (.op 12 (.op 13 (.op 14 (.op 15 (.op 16 (.op 17 (.op 18 (.op 19 (.alt 20 (.alt 21 (.op 22 (.done)) (.done)) (.done))))))))))))))))))))))]} Tryz.func298 (hvc:=?_)),
 (fun q0=>Ze Zl (Zb q0 Zf) mixed {loops:=[(0,[.reg 5 (.own (.ol 4 (.flat (.bool)))),.reg 6 (.dat Iq)])]} Tryz.func42 (hvc:=?_)),
 (fun q0=>Ze Zl (Zb q0 Zf) mixed {loops:=[(0,[.reg 5 (.dat Iq)])],draws:=[(4,[0,0,3,7,0,16,63,127,255,511,1023,2047,4095,4095,12287,32767,65535,4095,4095,397311,921599,2097151,4194303,8388607],.op 0 (.op 1 (.op 2 (.op 3 (.op 4 (.op 5 (.alt 6 (.op 7 (.op 8 (.op 9 (.op 10 (.op 11 (.op 12 (.op 13 (.op 14 (.op 15 (.op 16 (.op 17 (.op 18 (.op 19 (.op 20 (.op 21 (.op 22 (.op 23 (.done)))))))))))))))))) (.done))))))))]} Tryz.func131 (hvc:=?_)),
 (Ze Zl Zf mixed {} Tryz.func250 (hvc:=?_)),
 (fun q2 q0 q3 q1=>Ze Zl (Zb q2 (Zb q0 (Zb q3 (Zb q1 Zf)))) mixed {draws:=[(4,[0,0,0,6,0,16,0,0,255,511,1023],.op 0 (.op 1 (.op 2 (.op 4 (.op 5 (.op 6 (.op 7 (.alt 3 (.alt 8 (.op 9 (.op 10 (.done))) (.done)) (.done)))))))))]} Tryz.func181 (hvc:=?_)),
 (Ze Zl Zf mixed {} Tryz.func102 (hvc:=?_)),
 (fun q0 q1=>Ze Zl (Zb q0 (Zb q1 Zf)) mixed {draws:=[(1,[0,0,0,0,8,31,0,0,0,0,512,2047,4095,0,16383],.op 0 (.op 1 (.op 2 (.op 3 (.op 4 (.op 6 (.op 7 (.op 8 (.op 9 (.op 10 (.alt 5 (.alt 11 (.op 12 (.alt 13 (.alt 14 (.done) (.done)) (.done))) (.alt 13 (.alt 11 (.op 12 (.alt 14 (.done) (.done))) (.done)) (.done))) (.alt 13 (.alt 5 (.alt 11 (.op 12 (.alt 14 (.done) (.done))) (.done)) (.done)) (.done))))))))))))),(2,[0,0,0,4,15,0,0,0,128,511,1023,0,4095],.op 0 (.op 1 (.op 2 (.op 3 (.op 5 (.op 6 (.op 7 (.op 8 (.alt 4 (.alt 9 (.op 10 (.alt 11 (.alt 12 (.done) (.done)) (.done))) (.alt 11 (.alt 9 (.op 10 (.alt 12 (.done) (.done))) (.done)) (.done))) (.alt 11 (.alt 4 (.alt 9 (.op 10 (.alt 12 (.done) (.done))) (.done)) (.done)) (.done))))))))))),(3,[0,1,0,0,0,0,32,124,255,511,1023],.op 0 (.op 1 (.op 2 (.op 3 (.op 4 (.op 5 (.op 6 (.alt 7 (.op 8 (.op 9 (.alt 10 (.done) (.done)))) (.done))))))))),(4,[0,1,0,0,0,0,32,124,255,511,1023],.op 0 (.op 1 (.op 2 (.op 3 (.op 4 (.op 5 (.op 6 (.alt 7 (.op 8 (.op 9 (.alt 10 (.done) (.done)))) (.done))))))))),(5,[0,1,0,0,0,16,60,127,255,511],.op 0 (.op 1 (.op 2 (.op 3 (.op 4 (.op 5 (.alt 6 (.op 7 (.op 8 (.alt 9 (.done) (.done)))) (.done)))))))),(6,[0,1,0,0,0,16,60,127,255,511],.op 0 (.op 1 (.op 2 (.op 3 (.op 4 (.op 5 (.alt 6 (.op 7 (.op 8 (.alt 9 (.done) (.done)))) (.done)))))))),(7,[0,0,1,7],.op 0 (.alt 1 (.alt 2 (.alt 3 (.done) (.done)) (.done)) (.alt 2 (.alt 1 (.alt 3 (.done) (.done)) (.done)) (.done))))]} Tryz.func101 (hvc:=?_)),
 (fun q1 q0=>Ze Zl (Zb q1 (Zb q0 Zf)) mixed {loops:=[(0,[.reg 5 (.dat Iq)])]} Tryz.func92 (hvc:=?_)),
 (fun q1 q3 q0 q5 q2 q6 q4 q7 q8=>Ze Zl (Zb q1 (Zb q3 (Zb q0 (Zb q5 (Zb q2 (Zb q6 (Zb q4 (Zb q7 (Zb q8 Zf))))))))) mixed {loops:=[(0,[.reg 21 (.own (.ol 2 (.flat Iq))),.reg 22 (.dat Iq),.cello 3 0 (.ol 4 (.flat (.bool))),.cello 3 1 (.ol 103 (.flat (XJ))),.cello 3 2 (.ol 103 (.flat (XJ))),.ent 7 (nat_lit 4) (.flat Ty.bool),.ent 8 (nat_lit 103) (.flat XJ),.ent 9 (nat_lit 103) (.flat XJ),.ent 11 (nat_lit 4) (.flat Zvy.ety)]),(2,[.reg 24 (.dat (.bool)),.reg 25 (.dat Iq)])]} Tryz.func68 (hvc:=?_))⟩
 all_goals
  intro a
  repeat rcases a with ⟨_,a⟩
  rintro K ⟨r,h,hK⟩
  repeat'
    conv=>whnf
    first
    | with_reducible refine Ztc ?_
    | with_reducible refine Zfq (by assumption) (by assumption) (by assumption) ?_
    | with_reducible refine ZhT (by assumption) ?_
    | with_reducible refine Zfr (by assumption) ?_
    | (with_reducible refine shD ?_);first | refine Zpf h (fun h=>?_) (fun h=>?_) | refine ZsB h (fun h=>?_) (fun h=>?_)
    | (with_reducible refine ZtW ?_);first | refine Zun ?_ | refine Zkg ?_
    | (with_reducible refine ZxM ?_);first | refine ZrY h (fun h=>?_) (fun h=>?_) | refine Zub h (fun h=>?_) (fun h=>?_)
    | (with_reducible refine ZtV ?_);(refine ⟨fun hd=>?_,?_⟩)<;>try subst hd
    | (with_reducible refine ZxO ?_);first | with_reducible refine Zbe h (fun x hb h=>?_) | refine Zfr (by assumption) ?_ | with_reducible refine pG h (fun hp h=>?_) | with_reducible refine pA h (fun x ha hb hx h=>?_) | with_reducible refine pB h (fun x hb h=>?_) | refine Zbe h (fun x hb h=>?_)
    | (with_reducible refine ZxL ?_);first | with_reducible refine vAt h (fun x ha hb hx h=>?_) | refine Zfq (by assumption) (by assumption) (by assumption) ?_ | with_reducible refine pG h (fun hp h=>?_) | with_reducible refine pA h (fun x ha hb hx h=>?_) | with_reducible refine pB h (fun x hb h=>?_) | refine vAt h (fun x ha hb hx h=>?_)
    | (with_reducible refine ZtU ?_);first | with_reducible refine ZnZ h (fun x hb h=>?_) | refine ZhT (by assumption) ?_ | with_reducible refine pG h (fun hp h=>?_) | with_reducible refine pA h (fun x ha hb hx h=>?_) | with_reducible refine pB h (fun x hb h=>?_) | refine ZnZ h (fun x hb h=>?_)
    | with_reducible refine ZxN ?_
    | (with_reducible refine Zp0 ?_);refine Zqi h hK ?_;clear h hK;intro I μ v r h hK;(repeat rcases v with ⟨_,v⟩);(try dsimp only at h)
    | with_reducible refine ⟨by assumption,?_⟩
    | with_reducible refine orL ?_
    | with_reducible refine .inr ?_
    | (with_reducible refine ZtX ?_);first | refine ⟨?_,True.intro⟩ | refine ⟨?_,?_⟩
    | refine ⟨by kernel_rfl,?_⟩
    | refine ⟨by decide,?_⟩
    | with_reducible refine Zuo h (fun hp h=>?_)
    | intro fp
    | exact trivial
    | with_reducible exact Zs5 h
    | (refine pS h (fun e=>?_));subst e;(repeat (first | exact hK | exact ⟨⟨rfl,rfl⟩,hK.1 _ rfl⟩ | (refine pR hK (fun e hK=>?_));subst e));done
    | refine Zuo h (fun hp h=>?_)
    | refine ⟨by assumption,?_⟩
    | with_reducible refine pG h (fun hp h=>?_) | with_reducible refine pA h (fun x ha hb hx h=>?_) | with_reducible refine pB h (fun x hb h=>?_)
    | refine pG h (fun hp h=>?_)
    | fail
theorem ZGP (q0:Sq 218 Zzz):Sq 139 c203:=by
 refine Ze Zl (Zb q0 Zf) mixed {} (fn:=Tryz.f139) Tryz.func139 (by kernel_rfl) (by kernel_rfl) ?_
 rintro ⟨s0,v0,⟨⟩⟩ K ⟨r,h,hK⟩
 change ZD8 s0 v0=some r at h
 unfold ZD8 at h
 conv=>whnf
 refine Zbe h (fun int64_0 hb0 h=>?_)
 conv=>whnf
 cases h
 exact hK
end Go.Proofs.YtclfgjepbamnlaaGreatDoor
