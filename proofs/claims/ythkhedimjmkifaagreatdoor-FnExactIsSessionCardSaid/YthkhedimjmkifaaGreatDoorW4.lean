/-
  The functions keep their contracts, if what they call does. Printed by program.
-/
import Derived.Test.YthkhedimjmkifaaGreatDoorM
import Derived.KernelRfl
namespace Go.Proofs.YthkhedimjmkifaaGreatDoor
open Go Go.Sx
set_option maxRecDepth 100000
set_option maxHeartbeats 3200000
set_option linter.unusedVariables false
set_option linter.unusedSimpArgs false
structure Ws4:Prop where
 w181:Zc Tryz.prog 248 ZCL
 w188:Zc Tryz.prog 250 ZC4→Zc Tryz.prog 182 ZDG
 w186:Zc Tryz.prog 128 c183→Zc Tryz.prog 159 ZuU→Zc Tryz.prog 231 ZB9→Zc Tryz.prog 249 ZDD→Zc Tryz.prog 181 ZBT
 w251:Zc Tryz.prog 163 ZBF
 w254:Zc Tryz.prog 162 ZAL→Zc Tryz.prog 159 ZuU→Zc Tryz.prog 229 c167→Zc Tryz.prog 231 ZB9→Zc Tryz.prog 163 ZBF→Zc Tryz.prog 164 ZBb→Zc Tryz.prog 161 ZDT
 w191:Zc Tryz.prog 245 c127→Zc Tryz.prog 293 ZDu
 w228:Zc Tryz.prog 306 c130→Zc Tryz.prog 269 c228
 w230:Zc Tryz.prog 159 ZuU→Zc Tryz.prog 265 ZD3→Zc Tryz.prog 266 ZCw→Zc Tryz.prog 267 ZAv→Zc Tryz.prog 268 c227→Zc Tryz.prog 269 c228→Zc Tryz.prog 270 c229→Zc Tryz.prog 180 ZzS→Zc Tryz.prog 178 ZBY→Zc Tryz.prog 194 ZDo
 w216:Zc Tryz.prog 263 ZCG
 w164:Zc Tryz.prog 288 ZEH→Zc Tryz.prog 252 ZzY→Zc Tryz.prog 239 c164
 w201:Zc Tryz.prog 296 ZCJ→Zc Tryz.prog 255 c201
 w210:Zc Tryz.prog 298 c210
 w144:Zc Tryz.prog 369 ZEP→Zc Tryz.prog 370 c143→Zc Tryz.prog 368 ZDE
 w257:Zc Tryz.prog 100 ZEq→Zc Tryz.prog 101 ZCT→Zc Tryz.prog 86 ZCA→Zc Tryz.prog 40 ZEB
 w221:Zc Tryz.prog 301 ZEA
 w224:Zc Tryz.prog 266 ZCw
 w128:Zc Tryz.prog 245 c127→Zc Tryz.prog 302 Zkp→Zc Tryz.prog 303 ZfL→Zc Tryz.prog 267 ZAv
 w190:Zc Tryz.prog 183 ZDW
 w189:Zc Tryz.prog 159 ZuU→Zc Tryz.prog 179 c182→Zc Tryz.prog 180 ZzS→Zc Tryz.prog 181 ZBT→Zc Tryz.prog 182 ZDG→Zc Tryz.prog 98 ZEx
 w219:Zc Tryz.prog 299 c218→Zc Tryz.prog 262 ZE3
 w204:Zc Tryz.prog 187 c196→Zc Tryz.prog 245 c127→Zc Tryz.prog 255 c201→Zc Tryz.prog 256 c203→Zc Tryz.prog 188 ZEi
 w214:Zc Tryz.prog 183 ZDW→Zc Tryz.prog 184 c194→Zc Tryz.prog 185 ZDF→Zc Tryz.prog 188 ZEi→Zc Tryz.prog 189 ZC8→Zc Tryz.prog 192 c213→Zc Tryz.prog 99 ZCR
 w266:Zc Tryz.prog 278 ZE9→Zc Tryz.prog 279 ZDt→Zc Tryz.prog 166 ZzO→Zc Tryz.prog 212 ZFa
 w278:Zc Tryz.prog 133 ZFd
 w270:Zc Tryz.prog 213 ZEt→Zc Tryz.prog 130 ZEu
 w259:Zc Tryz.prog 312 ZEa
 w260:Zc Tryz.prog 312 ZEa→Zc Tryz.prog 278 ZE9
 w273:Zc Tryz.prog 214 ZD0→Zc Tryz.prog 132 ZEG
 w271:Zc Tryz.prog 131 ZE0
 w15:Zc Tryz.prog 103 c11→Zc Tryz.prog 104 c12→Zc Tryz.prog 105 c14→Zc Tryz.prog 43 c15
 w17:Zc Tryz.prog 83 c16→Zc Tryz.prog 44 c17
 w56:Zc Tryz.prog 121 c56
 w57:Zc Tryz.prog 121 c56→Zc Tryz.prog 58 c57
 w40:Zc Tryz.prog 157 c32→Zc Tryz.prog 203 c40
 w32:Zc Tryz.prog 157 c32
 w39:Zc Tryz.prog 114 c38→Zc Tryz.prog 52 c39
 w58:Zc Tryz.prog 55 c50→Zc Tryz.prog 56 c53→Zc Tryz.prog 57 c55→Zc Tryz.prog 58 c57→Zc Tryz.prog 17 c58
 w234:Zc Tryz.prog 127 c234
 w240:Zc Tryz.prog 206 ZDz
 w245:Zc Tryz.prog 210 ZDZ
 w138:Zc Tryz.prog 326 ZE4→Zc Tryz.prog 289 c138
 w170:Zc Tryz.prog 290 ZEJ→Zc Tryz.prog 326 ZEZ
 w174:Zc Tryz.prog 244 c173→Zc Tryz.prog 291 ZDp
 w83:Zc Tryz.prog 170 c80→Zc Tryz.prog 171 c81→Zc Tryz.prog 172 c63→Zc Tryz.prog 173 c82→Zc Tryz.prog 92 c83
 w88:Zc Tryz.prog 91 c79→Zc Tryz.prog 175 c87→Zc Tryz.prog 172 c63→Zc Tryz.prog 95 c88
 w122:Zc Tryz.prog 222 ZFf→Zc Tryz.prog 36 c91→Zc Tryz.prog 223 ZE1→Zc Tryz.prog 49 ZC6→Zc Tryz.prog 152 ZCu→Zc Tryz.prog 151 ZDb
 w63:Zc Tryz.prog 172 c63
 w74:Zc Tryz.prog 237 c62→Zc Tryz.prog 236 c74
set_option maxHeartbeats 100000000 in
theorem ws4:Ws4:=by
 refine ⟨(Zf Zq Zk mixed {} (fn:=Tryz.f248) Tryz.func248 (by kernel_rfl) (by kernel_rfl) ?_),
 (fun q0=>Zf Zq (Zd q0 Zk) mixed {loops:=[(0,[.reg 6 (.own (.ol 2 (.flat (.int .i64)))),.reg 19 (.dat (.int .i64))])]} (fn:=Tryz.f182) Tryz.func182 (by kernel_rfl) (by kernel_rfl) ?_),
 (fun q0 q1 q2 q3=>Zf Zq (Zd q0 (Zd q1 (Zd q2 (Zd q3 Zk)))) mixed {loops:=[(0,[.reg 27 (.dat (.int .i64)),.ent 2 (nat_lit 2) (.flat (Ty.int IntKind.i64))]),(2,[.reg 10 (.dat (.int .i64)),.ent 2 (nat_lit 2) (.flat (Ty.int IntKind.i64))])],draws:=[(7,[0,0,2,0,14,30,63,127,0,256,0,1024,0,0,12288,28672,65280,131071,262143,524287],.op 0 (.op 1 (.op 2 (.op 3 (.op 4 (.op 5 (.op 6 (.op 7 (.op 8 (.op 9 (.op 10 (.op 11 (.op 12 (.op 13 (.op 14 (.op 15 (.alt 16 (.op 17 (.op 18 (.alt 19 (.done) (.done)))) (.done)))))))))))))))))),(12,[0,0,2,0,14,30,63,127,0,0,768,1792,4095,8191,16383],.op 0 (.op 1 (.op 2 (.op 3 (.op 4 (.op 5 (.op 6 (.op 7 (.op 8 (.op 9 (.op 10 (.op 11 (.op 12 (.op 13 (.alt 14 (.done) (.done))))))))))))))))]} (fn:=Tryz.f181) Tryz.func181 (by kernel_rfl) (by kernel_rfl) ?_),
 (Zf Xa Zk mixed {draws:=[(2,[0,1,3,7,15,0,32,0,255,511,1023],.op 0 (.op 1 (.op 2 (.op 3 (.op 4 (.op 5 (.op 6 (.op 7 (.op 8 (.op 9 (.alt 10 (.done) (.done)))))))))))),(3,[0,1,3,7,15,0,32,127,255,511,0,1024,0,8191,16383],.op 0 (.op 1 (.op 2 (.op 3 (.op 4 (.op 5 (.op 6 (.op 7 (.op 8 (.op 9 (.op 10 (.op 11 (.op 12 (.op 13 (.alt 14 (.done) (.done))))))))))))))))]} (fn:=Tryz.f163) Tryz.func163 (by kernel_rfl) (by kernel_rfl) ?_),
 (fun q0 q1 q2 q4 q5 q3=>Zf Zxn (Zd q0 (Zd q1 (Zd q2 (Zd q4 (Zd q5 (Zd q3 Zk)))))) mixed {draws:=[(4,[0,0,2,6,14,0,32,96,224,480,992,2016,4094,8190,16382,32767,65535,0,262143],.op 0 (.op 1 (.op 2 (.op 3 (.op 4 (.op 5 (.op 6 (.op 7 (.op 8 (.op 9 (.alt 10 (.op 11 (.alt 12 (.op 13 (.op 14 (.op 15 (.op 16 (.alt 17 (.alt 18 (.done) (.done)) (.done)))))) (.alt 17 (.alt 12 (.op 13 (.op 14 (.op 15 (.op 16 (.alt 18 (.done) (.done)))))) (.done)) (.done)))) (.alt 17 (.alt 10 (.op 11 (.alt 12 (.op 13 (.op 14 (.op 15 (.op 16 (.alt 18 (.done) (.done)))))) (.done))) (.done)) (.done))))))))))))),(6,[0,0,0,0,8,28,63],.op 0 (.op 2 (.op 3 (.op 4 (.alt 1 (.alt 5 (.alt 6 (.done) (.done)) (.done)) (.alt 5 (.alt 1 (.alt 6 (.done) (.done)) (.done)) (.done))))))),(7,[0,0,0,4,12,28,60,0,252,508,1020,2044,4092,8191],.op 0 (.op 1 (.op 2 (.op 3 (.op 4 (.op 5 (.op 6 (.op 7 (.op 8 (.op 9 (.op 10 (.op 11 (.op 12 (.alt 13 (.done) (.done))))))))))))))),(9,[0,0,2,6,14,30,0,64,192,448,960,1984,4032,8190,16383,32767,65535,131071],.op 0 (.op 1 (.op 2 (.op 3 (.op 4 (.op 5 (.op 6 (.op 7 (.op 8 (.op 9 (.op 10 (.op 11 (.op 12 (.alt 13 (.op 14 (.op 15 (.op 16 (.alt 17 (.done) (.done))))) (.done))))))))))))))),(10,[0,0,2,6,14,0,32,96,224,480,992,2046,4095,8191,16383],.op 0 (.op 1 (.op 2 (.op 3 (.op 4 (.op 5 (.op 6 (.op 7 (.op 8 (.op 9 (.op 10 (.alt 11 (.op 12 (.op 13 (.alt 14 (.done) (.done)))) (.done)))))))))))))]} (fn:=Tryz.f161) Tryz.func161 (by kernel_rfl) (by kernel_rfl) ?_),
 (fun q0=>Zf Zq (Zd q0 Zk) mixed {} (fn:=Tryz.f293) Tryz.func293 (by kernel_rfl) (by kernel_rfl) ?_),
 (fun q0=>Zf Zq (Zd q0 Zk) mixed {} (fn:=Tryz.f269) Tryz.func269 (by kernel_rfl) (by kernel_rfl) ?_),
 (fun q2 q5 q6 q7 q3 q1 q0 q4 q8=>Zf Zq (Zd q2 (Zd q5 (Zd q6 (Zd q7 (Zd q3 (Zd q1 (Zd q0 (Zd q4 (Zd q8 Zk))))))))) mixed {draws:=[(6,[0,1,3,7,15,31,63,127,255,511,1023,255,2303,255,8447,30975,63743,129279,262143,524287,255,1048831,3145983,255,8388863,32506111,66060543,134217727,268435455,536870911],.op 0 (.op 1 (.op 2 (.op 3 (.op 4 (.op 5 (.op 6 (.op 7 (.op 8 (.op 9 (.op 10 (.op 11 (.op 12 (.op 13 (.op 14 (.op 15 (.op 16 (.op 17 (.op 18 (.op 19 (.op 20 (.op 21 (.op 22 (.op 23 (.op 24 (.op 25 (.op 26 (.alt 27 (.op 28 (.op 29 (.done))) (.done))))))))))))))))))))))))))))),(12,[0,0,2,7,15,31,63,127,255,255,767,2047,4095,8191,255,16639,65535,131071,262143],.op 0 (.op 1 (.op 2 (.op 3 (.op 4 (.op 5 (.op 6 (.op 7 (.op 8 (.op 9 (.op 10 (.op 11 (.op 12 (.op 13 (.op 14 (.op 15 (.op 16 (.op 17 (.op 18 (.done)))))))))))))))))))),(13,[0,1,0,4,0,16,60,124,252,508,1023,2047],.op 0 (.op 1 (.op 2 (.op 3 (.op 4 (.op 5 (.op 6 (.op 7 (.op 8 (.alt 9 (.alt 10 (.op 11 (.done)) (.done)) (.done)))))))))))]} (fn:=Tryz.f194) Tryz.func194 (by kernel_rfl) (by kernel_rfl) ?_),
 (Zf Zq Zk mixed {} (fn:=Tryz.f263) Tryz.func263 (by kernel_rfl) (by kernel_rfl) ?_),
 (fun q1 q0=>Zf Zq (Zd q1 (Zd q0 Zk)) mixed {loops:=[(0,[.reg 3 (.own (.ol 9 (.flat (.str)))),.reg 9 (.dat (.int .i64))])]} (fn:=Tryz.f239) Tryz.func239 (by kernel_rfl) (by kernel_rfl) ?_),
 (fun q0=>Zf Zq (Zd q0 Zk) mixed {} (fn:=Tryz.f255) Tryz.func255 (by kernel_rfl) (by kernel_rfl) ?_),
 (Zf Zq Zk mixed {} (fn:=Tryz.f298) Tryz.func298 (by kernel_rfl) (by kernel_rfl) ?_),
 (fun q1 q0=>Zf Zq (Zd q1 (Zd q0 Zk)) mixed {} (fn:=Tryz.f368) Tryz.func368 (by kernel_rfl) (by kernel_rfl) ?_),
 (fun q2 q0 q1=>Zf Zq (Zd q2 (Zd q0 (Zd q1 Zk))) mixed {loops:=[(0,[.reg 13 (.dat (.int .i64)),.cell 1003 0 (.sl (QL)),.cell 1003 1 (.sl (Yq)),.cell 1003 2 (.sl (.str)),.cell 1003 3 (.sl (Zcd)),.cell 1003 4 (.sl (Vv)),.cell 1004 0 (.sl (XF)),.cell 1004 1 (.sl (Yg)),.cell 1004 2 (.sl (Yg)),.cell 1004 3 (.sl (Yn)),.cell 1004 4 (.sl (Xf))])],draws:=[(9,[0,0,3,0,7,31],.op 0 (.op 1 (.alt 2 (.alt 3 (.alt 4 (.alt 5 (.done) (.done)) (.done)) (.alt 4 (.alt 3 (.alt 5 (.done) (.done)) (.done)) (.done))) (.alt 3 (.alt 2 (.alt 4 (.alt 5 (.done) (.done)) (.done)) (.done)) (.done)))))]} (fn:=Tryz.f40) Tryz.func40 (by kernel_rfl) (by kernel_rfl) ?_),
 (Zf Zq Zk mixed {} (fn:=Tryz.f301) Tryz.func301 (by kernel_rfl) (by kernel_rfl) ?_),
 (Zf Zq Zk mixed {} (fn:=Tryz.f266) Tryz.func266 (by kernel_rfl) (by kernel_rfl) ?_),
 (fun q2 q1 q0=>Zf Zq (Zd q2 (Zd q1 (Zd q0 Zk))) mixed {} (fn:=Tryz.f267) Tryz.func267 (by kernel_rfl) (by kernel_rfl) ?_),
 (Zf Zq Zk mixed {} (fn:=Tryz.f183) Tryz.func183 (by kernel_rfl) (by kernel_rfl) ?_),
 (fun q3 q1 q4 q2 q0=>Zf Xa (Zd q3 (Zd q1 (Zd q4 (Zd q2 (Zd q0 Zk))))) mixed {loops:=[(0,[.reg 4 (.dat (.int .i64)),.reg 25 (.dat (.int .i64)),.cello 1020 6 (.ol 257 (.flat (Zpw)))]),(2,[.reg 60 (.dat (.int .i64)),.ent 4 (nat_lit 2) (.flat Zvn.ety),.ent 5 (nat_lit 79) (Dp.ol (2:Go.TypeId) (Dp.flat (Ty.int IntKind.i64)))]),(4,[.reg 88 (.dat (.int .i64)),.cello 1020 7 (.ol 2 (.flat (.int .i64))),.cello 1020 8 (.ol 79 (.ol 2 (.flat (.int .i64)))),.cello 1020 6 (.ol (nat_lit 257) (.flat Zpw)),.ent 5 (nat_lit 79) (Dp.ol (2:Go.TypeId) (Dp.flat (Ty.int IntKind.i64)))]),(6,[.reg 122 (.dat (.int .i64)),.cello 1020 6 (.ol (nat_lit 257) (.flat Zpw))]),(8,[.reg 127 (.dat (.int .i64)),.cello 1020 6 (.ol (nat_lit 257) (.flat Zpw))])],draws:=[(1,[0,0,2,6,15,31,63],.op 0 (.op 1 (.op 2 (.alt 3 (.op 4 (.alt 5 (.op 6 (.done)) (.done))) (.done))))),(6,[0,0,2,6,14,0,0,0,224,510,1023,2047,4095],.op 0 (.op 1 (.op 2 (.op 3 (.op 4 (.op 5 (.op 6 (.op 7 (.alt 8 (.alt 9 (.op 10 (.op 11 (.alt 12 (.done) (.done)))) (.done)) (.done)))))))))),(16,[0,0,2,0,0,16,56,120,0,256,1016,2047,4095],.op 0 (.op 1 (.op 3 (.op 4 (.op 5 (.op 6 (.op 7 (.op 8 (.ld 2 (.alt 9 (.alt 10 (.op 11 (.alt 12 (.done) (.done))) (.done)) (.done))))))))))),(21,[0,0,2,6,14,0,0,96,224,480,992,2046,4095,8191,16383],.op 0 (.op 1 (.op 2 (.op 3 (.op 4 (.op 5 (.op 6 (.alt 7 (.op 8 (.op 9 (.alt 10 (.alt 11 (.op 12 (.op 13 (.alt 14 (.done) (.done)))) (.done)) (.done)))) (.done))))))))),(22,[0,0,2,6,14,0,0,96,224,510,1023,2047,4095],.op 0 (.op 1 (.op 2 (.op 3 (.op 4 (.op 5 (.op 6 (.alt 7 (.alt 8 (.alt 9 (.op 10 (.op 11 (.alt 12 (.done) (.done)))) (.done)) (.done)) (.done))))))))),(29,[0,0,2,6,14,0,0,96,224,480,0,2016,0,4096,0,28672,0,131040,262112,524286,1048575,2097151,4194303],.op 0 (.op 1 (.op 2 (.op 3 (.op 4 (.op 5 (.op 6 (.op 7 (.op 8 (.op 9 (.op 10 (.op 11 (.op 12 (.op 13 (.op 14 (.op 15 (.op 16 (.op 17 (.alt 18 (.alt 19 (.op 20 (.op 21 (.alt 22 (.done) (.done)))) (.done)) (.done))))))))))))))))))))]} (fn:=Tryz.f98) Tryz.func98 (by kernel_rfl) (by kernel_rfl) ?_),
 (fun q0=>Zf Zq (Zd q0 Zk) mixed {} (fn:=Tryz.f262) Tryz.func262 (by kernel_rfl) (by kernel_rfl) ?_),
 (fun q0 q2 q3 q1=>Zf Zq (Zd q0 (Zd q2 (Zd q3 (Zd q1 Zk)))) mixed {loops:=[(0,[.reg 13 (.dat (.int .i64))])],draws:=[(4,[0,0,2,7,15,31,63,127,255,511,63,1087,4095,8191,16383,32767,65535,131071,262143,524287,1048575,2097151,262143,4456447,16777215,33554431,67108863,262143,268435455,536870911,1073741823,2147483647,4294967295,8589934591,17179869183,17179869183,51539607551,137438953471,274877906943,549755813887,17179869183,1116691496959,4398046511103,8796093022207,17592186044415],.op 0 (.op 1 (.op 2 (.alt 3 (.op 4 (.op 5 (.op 6 (.op 7 (.op 8 (.op 9 (.op 10 (.op 11 (.op 12 (.op 13 (.op 14 (.op 15 (.op 16 (.op 17 (.op 18 (.op 19 (.op 20 (.op 21 (.op 22 (.op 23 (.op 24 (.op 25 (.op 26 (.op 27 (.op 28 (.op 29 (.op 30 (.op 31 (.op 32 (.op 33 (.op 34 (.op 35 (.op 36 (.op 37 (.op 38 (.op 39 (.op 40 (.op 41 (.op 42 (.op 43 (.op 44 (.done)))))))))))))))))))))))))))))))))))))))))) (.done)))))]} (fn:=Tryz.f188) Tryz.func188 (by kernel_rfl) (by kernel_rfl) ?_),
 (fun q2 q5 q1 q3 q0 q4=>Zf Zq (Zd q2 (Zd q5 (Zd q1 (Zd q3 (Zd q0 (Zd q4 Zk)))))) mixed {} (fn:=Tryz.f99) Tryz.func99 (by kernel_rfl) (by kernel_rfl) ?_),
 (fun q1 q2 q0=>Zf Zq (Zd q1 (Zd q2 (Zd q0 Zk))) mixed {} (fn:=Tryz.f212) Tryz.func212 (by kernel_rfl) (by kernel_rfl) ?_),
 (Zf Zq Zk mixed {} (fn:=Tryz.f133) Tryz.func133 (by kernel_rfl) (by kernel_rfl) ?_),
 (fun q0=>Zf Zq (Zd q0 Zk) mixed {loops:=[(0,[.reg 5 (.dat (.int .i64))])],draws:=[(6,[0,0,3,7,0,0,48,112,255,511],.op 0 (.op 1 (.op 2 (.op 3 (.op 4 (.op 5 (.op 6 (.op 7 (.alt 8 (.op 9 (.done)) (.done))))))))))]} (fn:=Tryz.f130) Tryz.func130 (by kernel_rfl) (by kernel_rfl) ?_),
 (Zf Zq Zk mixed {} (fn:=Tryz.f312) Tryz.func312 (by kernel_rfl) (by kernel_rfl) ?_),
 (fun q0=>Zf Zq (Zd q0 Zk) mixed {loops:=[(0,[.reg 5 (.dat (.int .i64))])],draws:=[(6,[0,0,3,7,0,0,48,112,255,511],.op 0 (.op 1 (.op 2 (.op 3 (.op 4 (.op 5 (.op 6 (.op 7 (.alt 8 (.op 9 (.done)) (.done))))))))))]} (fn:=Tryz.f278) Tryz.func278 (by kernel_rfl) (by kernel_rfl) ?_),
 (fun q0=>Zf Zq (Zd q0 Zk) mixed {loops:=[(0,[.reg 5 (.dat (.int .i64))])],draws:=[(6,[0,0,3,7,0,0,48,112,255,511],.op 0 (.op 1 (.op 2 (.op 3 (.op 4 (.op 5 (.op 6 (.op 7 (.alt 8 (.op 9 (.done)) (.done))))))))))]} (fn:=Tryz.f132) Tryz.func132 (by kernel_rfl) (by kernel_rfl) ?_),
 (Zf Zq Zk mixed {loops:=[(0,[.reg 5 (.dat (.int .i64))])],draws:=[(6,[0,0,3,7,0,0,48,112,255],.op 0 (.op 1 (.op 2 (.op 3 (.op 4 (.op 5 (.op 6 (.op 7 (.op 8 (.done))))))))))]} (fn:=Tryz.f131) Tryz.func131 (by kernel_rfl) (by kernel_rfl) ?_),
 (fun q0 q1 q2=>Zf Zq (Zd q0 (Zd q1 (Zd q2 Zk))) mixed {} (fn:=Tryz.f43) Tryz.func43 (by kernel_rfl) (by kernel_rfl) ?_),
 (fun q0=>Zf Zq (Zd q0 Zk) mixed {loops:=[(0,[.reg 1 (.dat (.int .i64)),.reg 5 (.dat (.int .i64))])]} (fn:=Tryz.f44) Tryz.func44 (by kernel_rfl) (by kernel_rfl) ?_),
 (Zf Zq Zk mixed {} (fn:=Tryz.f121) Tryz.func121 (by kernel_rfl) (by kernel_rfl) ?_),
 (fun q0=>Zf Zq (Zd q0 Zk) mixed {loops:=[(0,[.reg 4 (.dat (.int .i64)),.ent 0 (nat_lit 193) (.flat ZA6.ety)])]} (fn:=Tryz.f58) Tryz.func58 (by kernel_rfl) (by kernel_rfl) ?_),
 (fun q0=>Zf Zq (Zd q0 Zk) mixed {} (fn:=Tryz.f203) Tryz.func203 (by kernel_rfl) (by kernel_rfl) ?_),
 (Zf Zq Zk mixed {loops:=[(0,[.reg 4 (.dat (.int .i64)),.ent 0 (nat_lit 2) (.flat Zvn.ety)])]} (fn:=Tryz.f157) Tryz.func157 (by kernel_rfl) (by kernel_rfl) ?_),
 (fun q0=>Zf Xa (Zd q0 Zk) mixed {} (fn:=Tryz.f52) Tryz.func52 (by kernel_rfl) (by kernel_rfl) ?_),
 (fun q3 q1 q0 q2=>Zf Xa (Zd q3 (Zd q1 (Zd q0 (Zd q2 Zk)))) mixed {} (fn:=Tryz.f17) Tryz.func17 (by kernel_rfl) (by kernel_rfl) ?_),
 (Zf Zq Zk mixed {} (fn:=Tryz.f127) Tryz.func127 (by kernel_rfl) (by kernel_rfl) ?_),
 (Zf Zq Zk mixed {} (fn:=Tryz.f206) Tryz.func206 (by kernel_rfl) (by kernel_rfl) ?_),
 (Zf Zq Zk mixed {} (fn:=Tryz.f210) Tryz.func210 (by kernel_rfl) (by kernel_rfl) ?_),
 (fun q0=>Zf Zq (Zd q0 Zk) mixed {} (fn:=Tryz.f289) Tryz.func289 (by kernel_rfl) (by kernel_rfl) ?_),
 (fun q0=>Zf Zq (Zd q0 Zk) mixed {loops:=[(0,[.reg 8 (.dat (.int .i64))])]} (fn:=Tryz.f326) Tryz.func326 (by kernel_rfl) (by kernel_rfl) ?_),
 (fun q0=>Zf Zq (Zd q0 Zk) mixed {loops:=[(0,[.reg 8 (.dat (.int .i64))])]} (fn:=Tryz.f291) Tryz.func291 (by kernel_rfl) (by kernel_rfl) ?_),
 (fun q1 q0 q2 q3=>Zf Zq (Zd q1 (Zd q0 (Zd q2 (Zd q3 Zk)))) mixed {loops:=[(0,[.reg 3 (.dat (.int .i64))]),(2,[.reg 5 (.dat (.int .i64))])],draws:=[(10,[0,0,3,7,15,0,32,127],.op 0 (.op 1 (.op 2 (.op 3 (.op 4 (.op 5 (.op 6 (.op 7 (.done)))))))))]} (fn:=Tryz.f92) Tryz.func92 (by kernel_rfl) (by kernel_rfl) ?_),
 (fun q1 q0 q2=>Zf Zq (Zd q1 (Zd q0 (Zd q2 Zk))) mixed {} (fn:=Tryz.f95) Tryz.func95 (by kernel_rfl) (by kernel_rfl) ?_),
 (fun q1 q4 q0 q2 q3=>Zf Xa (Zd q1 (Zd q4 (Zd q0 (Zd q2 (Zd q3 Zk))))) mixed {draws:=[(6,[0,0,3,0,15,31,63,63,0,383,1023],.op 0 (.op 1 (.op 3 (.alt 2 (.alt 4 (.op 5 (.op 6 (.op 7 (.alt 8 (.alt 9 (.op 10 (.done)) (.done)) (.done))))) (.alt 8 (.alt 4 (.op 5 (.op 6 (.op 7 (.alt 9 (.op 10 (.done)) (.done))))) (.done)) (.done))) (.alt 8 (.alt 2 (.alt 4 (.op 5 (.op 6 (.op 7 (.alt 9 (.op 10 (.done)) (.done))))) (.done)) (.done)) (.done)))))),(7,[0,1,3,7,7,31,7,127,255,511],.op 0 (.op 1 (.op 2 (.op 3 (.op 4 (.op 6 (.alt 5 (.alt 7 (.op 8 (.op 9 (.done))) (.done)) (.done))))))))]} (fn:=Tryz.f151) Tryz.func151 (by kernel_rfl) (by kernel_rfl) ?_),
 (Zf Zq Zk mixed {} (fn:=Tryz.f172) Tryz.func172 (by kernel_rfl) (by kernel_rfl) ?_),
 (fun q0=>Zf Zq (Zd q0 Zk) mixed {loops:=[(0,[.reg 3 (.dat (.int .i64))]),(2,[.reg 4 (.dat (.int .i64))])],draws:=[(9,[0,0,3,7,0,0,48,112,255],.op 0 (.op 1 (.op 2 (.op 3 (.op 4 (.op 5 (.op 6 (.op 7 (.op 8 (.done))))))))))]} (fn:=Tryz.f236) Tryz.func236 (by kernel_rfl) (by kernel_rfl) ?_)⟩
 all_goals
  intro a
  repeat rcases a with ⟨_,a⟩
  rintro K ⟨r,h,hK⟩
  repeat'
    conv=>whnf
    first
    | with_reducible refine ZvK ?_
    | with_reducible refine ZeS (by assumption) (by assumption) (by assumption) ?_
    | with_reducible refine QO (by assumption) ?_
    | with_reducible refine ZeX (by assumption) ?_
    | (with_reducible refine shD ?_);first | refine ZsV h (fun h=>?_) (fun h=>?_) | refine Zvc h (fun h=>?_) (fun h=>?_)
    | (with_reducible refine Zvw ?_);first | refine Zzx ?_ | refine Zs3 ?_
    | (with_reducible refine ZAC ?_);first | refine ZuI h (fun h=>?_) (fun h=>?_) | refine Zvv h (fun h=>?_) (fun h=>?_)
    | (with_reducible refine Zva ?_);(refine ⟨fun hd=>?_,?_⟩)<;>try subst hd
    | (with_reducible refine ZAt ?_);first | with_reducible refine Zc5 h (fun x hb h=>?_) | refine ZeX (by assumption) ?_ | with_reducible refine pG h (fun hp h=>?_) | with_reducible refine pA h (fun x ha hb hx h=>?_) | with_reducible refine pB h (fun x hb h=>?_) | refine Zc5 h (fun x hb h=>?_)
    | (with_reducible refine ZAA ?_);first | with_reducible refine vAt h (fun x ha hb hx h=>?_) | refine ZeS (by assumption) (by assumption) (by assumption) ?_ | with_reducible refine pG h (fun hp h=>?_) | with_reducible refine pA h (fun x ha hb hx h=>?_) | with_reducible refine pB h (fun x hb h=>?_) | refine vAt h (fun x ha hb hx h=>?_)
    | (with_reducible refine ZvL ?_);first | with_reducible refine Zok h (fun x hb h=>?_) | refine QO (by assumption) ?_ | with_reducible refine pG h (fun hp h=>?_) | with_reducible refine pA h (fun x ha hb hx h=>?_) | with_reducible refine pB h (fun x hb h=>?_) | refine Zok h (fun x hb h=>?_)
    | with_reducible refine ZAF ?_
    | (with_reducible refine ZqE ?_);refine ZqA h hK ?_;clear h hK;intro I μ v r h hK;(repeat rcases v with ⟨_,v⟩);(try dsimp only at h)
    | with_reducible refine ⟨by assumption,?_⟩
    | with_reducible refine orL ?_
    | with_reducible refine .inr ?_
    | (with_reducible refine ZvB ?_);first | refine ⟨?_,True.intro⟩ | refine ⟨?_,?_⟩
    | refine ⟨by kernel_rfl,?_⟩
    | refine ⟨by decide,?_⟩
    | with_reducible refine ZpS h (fun hp h=>?_)
    | intro fp
    | exact trivial
    | with_reducible exact Zvu h
    | (refine pS h (fun e=>?_));subst e;(repeat (first | exact hK | exact ⟨⟨rfl,rfl⟩,hK.1 _ rfl⟩ | (refine pR hK (fun e hK=>?_));subst e));done
    | refine ZpS h (fun hp h=>?_)
    | refine ⟨by assumption,?_⟩
    | with_reducible refine pG h (fun hp h=>?_) | with_reducible refine pA h (fun x ha hb hx h=>?_) | with_reducible refine pB h (fun x hb h=>?_)
    | refine pG h (fun hp h=>?_)
    | fail
theorem Zp0 (rec0:(List Zl)→Int→Option ZeK) (hrec:Zc Tryz.prog 294 (Zei rec0)):Zc Tryz.prog 294 (Zei (ZaG rec0)):=by
 refine Zf Zq (Zd hrec Zk) mixed {} (fn:=Tryz.f294) Tryz.func294 (by kernel_rfl) (by kernel_rfl) ?_
 rintro ⟨list0,k0,⟨⟩⟩ K ⟨r,h,hK⟩
 change ZaG rec0 list0 k0=some r at h
 unfold ZaG at h
 conv=>whnf
 refine vAt h (fun x0 he0a he0b he0x h=>?_)
 conv=>whnf
 refine ZsV h (fun h=>?_) (fun h=>?_)
 conv=>whnf
 cases h
 exact hK
 conv=>whnf
 refine Zc5 h (fun r0 hb1 h=>?_)
 conv=>whnf
 refine ZsV h (fun h=>?_) (fun h=>?_)
 conv=>whnf
 refine ⟨by decide,?_⟩
 conv=>whnf
 refine ZuI h (fun h=>?_) (fun h=>?_)
 conv=>whnf
 cases h
 exact hK
 conv=>whnf
 cases h
 exact hK
 conv=>whnf
 refine ZuI h (fun h=>?_) (fun h=>?_)
 conv=>whnf
 cases h
 exact hK
 conv=>whnf
 cases h
 exact hK
theorem ZGa:Zc Tryz.prog 294 ZEp:=by
 have hn:∀ n,Zc Tryz.prog 294 (Zei (Zao n)):=by
  intro n
  induction n with
  | zero =>
  refine Zf Zq Zk mixed {} (fn:=Tryz.f294) Tryz.func294 (by kernel_rfl) (by kernel_rfl) ?_
  rintro ⟨list0,k0,⟨⟩⟩ K ⟨r,h,hK⟩
  cases h
  | succ n ih=>exact Zp0 _ ih
 refine ⟨(hn 0).1,?_⟩
 rintro w S vs ⟨list0,k0,⟨⟩⟩ fp K h1 h2 h3 h4 ⟨r,h,hK⟩
 obtain ⟨n,hr⟩:=ZsX h
 exact (hn n).2 w S vs _ fp K h1 h2 h3 h4 ⟨r,hr,hK⟩
end Go.Proofs.YthkhedimjmkifaaGreatDoor
