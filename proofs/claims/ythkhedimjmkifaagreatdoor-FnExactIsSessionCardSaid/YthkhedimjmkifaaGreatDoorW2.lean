/-
  The functions keep their contracts, if what they call does. Printed by program.
-/
import Derived.Test.YthkhedimjmkifaaGreatDoorM
import Derived.KernelRfl
namespace Go.Proofs.YthkhedimjmkifaaGreatDoor
open Go Go.Sx
set_option maxRecDepth 100000
set_option maxHeartbeats 3200000
set_option linter.unusedVariables false
set_option linter.unusedSimpArgs false
structure Ws2:Prop where
 w253:Zc Tryz.prog 162 ZAL→Zc Tryz.prog 159 ZuU→Zc Tryz.prog 229 c167→Zc Tryz.prog 230 c236→Zc Tryz.prog 163 ZBF→Zc Tryz.prog 164 ZBb→Zc Tryz.prog 160 ZCQ
 w249:Zc Tryz.prog 122 ZEs→Zc Tryz.prog 123 ZEj→Zc Tryz.prog 124 ZBV→Zc Tryz.prog 59 ZDC
 w148:Zc Tryz.prog 372 c148
 w169:Zc Tryz.prog 242 c168→Zc Tryz.prog 290 ZEJ
 w184:Zc Tryz.prog 159 ZuU→Zc Tryz.prog 231 ZB9
 w163:Zc Tryz.prog 267 ZAv→Zc Tryz.prog 323 ZDv→Zc Tryz.prog 324 c157→Zc Tryz.prog 245 c127→Zc Tryz.prog 325 c162→Zc Tryz.prog 288 ZEH
 w213:Zc Tryz.prog 260 ZER→Zc Tryz.prog 261 c212→Zc Tryz.prog 245 c127→Zc Tryz.prog 252 ZzY→Zc Tryz.prog 192 c213
 w179:Zc Tryz.prog 180 ZzS→Zc Tryz.prog 245 c127→Zc Tryz.prog 246 ZEw→Zc Tryz.prog 247 c139→Zc Tryz.prog 178 ZBY
 w235:Zc Tryz.prog 125 c232→Zc Tryz.prog 126 c233→Zc Tryz.prog 127 c234→Zc Tryz.prog 128 c183→Zc Tryz.prog 60 ZCD
 w238:Zc Tryz.prog 272 ZD7
 w200:Zc Tryz.prog 245 c127→Zc Tryz.prog 296 ZCJ
 w195:Zc Tryz.prog 254 ZA5
 w197:Zc Tryz.prog 187 c196→Zc Tryz.prog 186 ZFh
 w283:Zc Tryz.prog 166 ZzO→Zc Tryz.prog 135 ZDd
 w282:Zc Tryz.prog 134 ZCK→Zc Tryz.prog 65 ZDB
 w280:Zc Tryz.prog 215 ZEY
 w262:Zc Tryz.prog 166 ZzO→Zc Tryz.prog 355 ZEk
 w27:Zc Tryz.prog 83 c16→Zc Tryz.prog 29 c27
 w22:Zc Tryz.prog 156 c2→Zc Tryz.prog 107 c22
 w11:Zc Tryz.prog 198 c10→Zc Tryz.prog 103 c11
 w1:Zc Tryz.prog 307 c0→Zc Tryz.prog 273 c1
 w12:Zc Tryz.prog 104 c12
 w59:Zc Tryz.prog 84 c46→Zc Tryz.prog 31 c59
 w54:Zc Tryz.prog 157 c32→Zc Tryz.prog 120 c54
 w41:Zc Tryz.prog 203 c40→Zc Tryz.prog 115 c41
 w51:Zc Tryz.prog 205 c51
 w42:Zc Tryz.prog 116 c42
 w34:Zc Tryz.prog 354 c33→Zc Tryz.prog 337 c34
 w232:Zc Tryz.prog 125 c232
 w244:Zc Tryz.prog 209 ZCX
 w160:Zc Tryz.prog 361 c159→Zc Tryz.prog 344 c160
 w146:Zc Tryz.prog 377 c145→Zc Tryz.prog 367 c146
 w155:Zc Tryz.prog 345 c154→Zc Tryz.prog 361 ZE6
 w159:Zc Tryz.prog 362 ZEK→Zc Tryz.prog 361 c159
 w96:Zc Tryz.prog 317 c96
 w71:Zc Tryz.prog 320 c64→Zc Tryz.prog 237 c62→Zc Tryz.prog 172 c63→Zc Tryz.prog 321 c69→Zc Tryz.prog 322 c70→Zc Tryz.prog 287 c71
 w84:Zc Tryz.prog 172 c63→Zc Tryz.prog 237 c62→Zc Tryz.prog 174 c84
 w108:Zc Tryz.prog 201 c107→Zc Tryz.prog 309 ZCC
 w109:Zc Tryz.prog 309 ZCC→Zc Tryz.prog 275 c109
 w64:Zc Tryz.prog 237 c62→Zc Tryz.prog 172 c63→Zc Tryz.prog 320 c64
 w68:Zc Tryz.prog 356 c67→Zc Tryz.prog 341 c68
 w95:Zc Tryz.prog 316 c95
 w100:Zc Tryz.prog 316 c95→Zc Tryz.prog 169 c77→Zc Tryz.prog 340 c99→Zc Tryz.prog 319 ZDO
 w115:Zc Tryz.prog 94 c76→Zc Tryz.prog 169 c77→Zc Tryz.prog 226 ZAy
 w101:Zc Tryz.prog 94 c76→Zc Tryz.prog 315 c94→Zc Tryz.prog 316 c95→Zc Tryz.prog 237 c62→Zc Tryz.prog 317 c96→Zc Tryz.prog 318 c98→Zc Tryz.prog 319 ZDO→Zc Tryz.prog 169 c77→Zc Tryz.prog 168 c78→Zc Tryz.prog 285 ZC2
 w80:Zc Tryz.prog 237 c62→Zc Tryz.prog 172 c63→Zc Tryz.prog 170 c80
 w85:Zc Tryz.prog 174 c84→Zc Tryz.prog 93 c85
 w90:Zc Tryz.prog 94 c76→Zc Tryz.prog 172 c63→Zc Tryz.prog 176 c89→Zc Tryz.prog 96 c90
 w106:Zc Tryz.prog 109 ZDX→Zc Tryz.prog 110 c105→Zc Tryz.prog 49 ZC6
set_option maxHeartbeats 100000000 in
theorem ws2:Ws2:=by
 refine ⟨(fun q1 q2 q3 q0 q5 q4=>Zf Xa (Zd q1 (Zd q2 (Zd q3 (Zd q0 (Zd q5 (Zd q4 Zk)))))) mixed {draws:=[(2,[0,1,3,7,15,0,32,127,255,0,1023],.op 0 (.op 1 (.op 2 (.op 3 (.op 5 (.op 6 (.alt 4 (.op 7 (.op 8 (.alt 9 (.alt 10 (.done) (.done)) (.done)))) (.alt 9 (.alt 4 (.op 7 (.op 8 (.alt 10 (.done) (.done)))) (.done)) (.done))))))))),(4,[0,1,3,7,15,31,0,64,192,448,960,2047,4095,8191],.op 0 (.op 1 (.op 2 (.op 3 (.op 4 (.op 6 (.op 7 (.op 8 (.op 9 (.op 10 (.alt 5 (.alt 11 (.op 12 (.op 13 (.done))) (.done)) (.done)))))))))))),(5,[0,0,2,6,14,30,0,64,0,256,0,1024,0,7168,16320,32704,65534,131071,262143,524287,1048575],.op 0 (.op 1 (.op 2 (.op 3 (.op 4 (.op 5 (.op 6 (.op 7 (.op 8 (.op 9 (.op 10 (.op 11 (.op 12 (.alt 13 (.op 14 (.alt 15 (.alt 16 (.op 17 (.op 18 (.op 19 (.alt 20 (.done) (.done))))) (.done)) (.done))) (.done))))))))))))))),(6,[0,0,2,6,14,30,0,64,192,510,1023,2047,4095,8191],.op 0 (.op 1 (.op 2 (.op 3 (.op 4 (.op 5 (.op 6 (.op 7 (.alt 8 (.alt 9 (.op 10 (.op 11 (.op 12 (.alt 13 (.done) (.done))))) (.done)) (.done))))))))))]} (fn:=Tryz.f160) Tryz.func160 (by kernel_rfl) (by kernel_rfl) ?_),
 (fun q0 q1 q2=>Zf Xa (Zd q0 (Zd q1 (Zd q2 Zk))) mixed {loops:=[(0,[.reg 16 (.dat (.int .i64)),.cello 1003 4 (.ol 86 (Zl3))])],draws:=[(1,[0,1,3,0,8,31,63,0,255],.op 0 (.op 1 (.op 3 (.op 4 (.alt 2 (.alt 5 (.op 6 (.alt 7 (.alt 8 (.done) (.done)) (.done))) (.alt 7 (.alt 5 (.op 6 (.alt 8 (.done) (.done))) (.done)) (.done))) (.alt 7 (.alt 2 (.alt 5 (.op 6 (.alt 8 (.done) (.done))) (.done)) (.done)) (.done))))))),(5,[0,1,0,4,12,31,63,127],.op 0 (.op 1 (.op 2 (.alt 3 (.alt 4 (.alt 5 (.op 6 (.alt 7 (.done) (.done))) (.done)) (.done)) (.done)))))]} (fn:=Tryz.f59) Tryz.func59 (by kernel_rfl) (by kernel_rfl) ?_),
 (Zf Zq Zk mixed {} (fn:=Tryz.f372) Tryz.func372 (by kernel_rfl) (by kernel_rfl) ?_),
 (fun q0=>Zf Zq (Zd q0 Zk) mixed {} (fn:=Tryz.f290) Tryz.func290 (by kernel_rfl) (by kernel_rfl) ?_),
 (fun q0=>Zf Zq (Zd q0 Zk) mixed {loops:=[(0,[.reg 5 (.own (.ol 2 (.flat (.int .i64)))),.reg 11 (.dat (.int .i64))])]} (fn:=Tryz.f231) Tryz.func231 (by kernel_rfl) (by kernel_rfl) ?_),
 (fun q3 q2 q1 q4 q0=>Zf Zq (Zd q3 (Zd q2 (Zd q1 (Zd q4 (Zd q0 Zk))))) mixed {} (fn:=Tryz.f288) Tryz.func288 (by kernel_rfl) (by kernel_rfl) ?_),
 (fun q1 q0 q3 q2=>Zf Zq (Zd q1 (Zd q0 (Zd q3 (Zd q2 Zk)))) mixed {loops:=[(0,[.reg 3 (.own (.ol 9 (.flat (.str)))),.reg 8 (.dat (.int .i64))])]} (fn:=Tryz.f192) Tryz.func192 (by kernel_rfl) (by kernel_rfl) ?_),
 (fun q0 q3 q1 q2=>Zf Zq (Zd q0 (Zd q3 (Zd q1 (Zd q2 Zk)))) mixed {} (fn:=Tryz.f178) Tryz.func178 (by kernel_rfl) (by kernel_rfl) ?_),
 (fun q2 q0 q1 q3=>Zf Xa (Zd q2 (Zd q0 (Zd q1 (Zd q3 Zk)))) mixed {loops:=[(0,[.reg 22 (.dat (.int .i64)),.cello 1003 3 (.ol 155 (ZaM))])],draws:=[(1,[0,1,3,0,8,31,0,64,255,0,512,2047,4095,0,16383],.op 0 (.op 1 (.op 3 (.op 4 (.op 6 (.op 7 (.op 9 (.op 10 (.alt 2 (.alt 5 (.alt 8 (.alt 11 (.op 12 (.alt 13 (.alt 14 (.done) (.done)) (.done))) (.alt 13 (.alt 11 (.op 12 (.alt 14 (.done) (.done))) (.done)) (.done))) (.alt 13 (.alt 8 (.alt 11 (.op 12 (.alt 14 (.done) (.done))) (.done)) (.done)) (.done))) (.alt 13 (.alt 5 (.alt 8 (.alt 11 (.op 12 (.alt 14 (.done) (.done))) (.done)) (.done)) (.done)) (.done))) (.alt 13 (.alt 2 (.alt 5 (.alt 8 (.alt 11 (.op 12 (.alt 14 (.done) (.done))) (.done)) (.done)) (.done)) (.done)) (.done))))))))))),(5,[0,1,0,4,0,16,0,64,192,0,512,1984,0,4096,16320,32764,65532,131071,262143,524287],.op 0 (.op 1 (.op 2 (.op 3 (.op 4 (.op 5 (.op 6 (.op 7 (.op 9 (.op 10 (.op 12 (.op 13 (.alt 8 (.alt 11 (.alt 14 (.op 15 (.alt 16 (.alt 17 (.op 18 (.alt 19 (.done) (.done))) (.done)) (.done))) (.done)) (.done)) (.done))))))))))))))]} (fn:=Tryz.f60) Tryz.func60 (by kernel_rfl) (by kernel_rfl) ?_),
 (Zf Xa Zk mixed {loops:=[(0,[.reg 9 (.dat (.int .i64)),.ent 0 (nat_lit 2) (.flat (Ty.int IntKind.i64))])]} (fn:=Tryz.f272) Tryz.func272 (by kernel_rfl) (by kernel_rfl) ?_),
 (fun q0=>Zf Zq (Zd q0 Zk) mixed {} (fn:=Tryz.f296) Tryz.func296 (by kernel_rfl) (by kernel_rfl) ?_),
 (Zf Zq Zk mixed {} (fn:=Tryz.f254) Tryz.func254 (by kernel_rfl) (by kernel_rfl) ?_),
 (fun q0=>Zf Zq (Zd q0 Zk) mixed {} (fn:=Tryz.f186) Tryz.func186 (by kernel_rfl) (by kernel_rfl) ?_),
 (fun q0=>Zf Zq (Zd q0 Zk) mixed {} (fn:=Tryz.f135) Tryz.func135 (by kernel_rfl) (by kernel_rfl) ?_),
 (fun q0=>Zf Zq (Zd q0 Zk) mixed {loops:=[(0,[.reg 5 (.dat (.int .i64))])],draws:=[(6,[0,0,3,7,0,0,48,112,255,511],.op 0 (.op 1 (.op 2 (.op 3 (.op 4 (.op 5 (.op 6 (.op 7 (.alt 8 (.op 9 (.done)) (.done))))))))))]} (fn:=Tryz.f65) Tryz.func65 (by kernel_rfl) (by kernel_rfl) ?_),
 (Zf Zq Zk mixed {} (fn:=Tryz.f215) Tryz.func215 (by kernel_rfl) (by kernel_rfl) ?_),
 (fun q0=>Zf Zq (Zd q0 Zk) mixed {} (fn:=Tryz.f355) Tryz.func355 (by kernel_rfl) (by kernel_rfl) ?_),
 (fun q0=>Zf Zq (Zd q0 Zk) mixed {} (fn:=Tryz.f29) Tryz.func29 (by kernel_rfl) (by kernel_rfl) ?_),
 (fun q0=>Zf Zq (Zd q0 Zk) mixed {} (fn:=Tryz.f107) Tryz.func107 (by kernel_rfl) (by kernel_rfl) ?_),
 (fun q0=>Zf Zq (Zd q0 Zk) mixed {loops:=[(0,[.reg 1 (.dat (.int .i64)),.reg 5 (.dat (.int .i64))])]} (fn:=Tryz.f103) Tryz.func103 (by kernel_rfl) (by kernel_rfl) ?_),
 (fun q0=>Zf Zq (Zd q0 Zk) mixed {loops:=[(0,[.reg 1 (.dat (.int .i64)),.reg 5 (.dat (.int .i64))])]} (fn:=Tryz.f273) Tryz.func273 (by kernel_rfl) (by kernel_rfl) ?_),
 (Zf Zq Zk mixed {loops:=[(0,[.reg 1 (.dat (.int .i64)),.reg 5 (.dat (.int .i64))])]} (fn:=Tryz.f104) Tryz.func104 (by kernel_rfl) (by kernel_rfl) ?_),
 (fun q0=>Zf Zq (Zd q0 Zk) mixed {} (fn:=Tryz.f31) Tryz.func31 (by kernel_rfl) (by kernel_rfl) ?_),
 (fun q0=>Zf Zq (Zd q0 Zk) mixed {} (fn:=Tryz.f120) Tryz.func120 (by kernel_rfl) (by kernel_rfl) ?_),
 (fun q0=>Zf Xa (Zd q0 Zk) mixed {loops:=[(0,[.reg 4 (.dat (.int .i64)),.ent 0 (nat_lit 219) Zb9])]} (fn:=Tryz.f115) Tryz.func115 (by kernel_rfl) (by kernel_rfl) ?_),
 (Zf Zq Zk mixed {} (fn:=Tryz.f205) Tryz.func205 (by kernel_rfl) (by kernel_rfl) ?_),
 (Zf Zq Zk mixed {loops:=[(0,[.reg 4 (.dat (.int .i64)),.ent 0 (nat_lit 9) (.flat ZAM.ety)])]} (fn:=Tryz.f116) Tryz.func116 (by kernel_rfl) (by kernel_rfl) ?_),
 (fun q0=>Zf Xa (Zd q0 Zk) mixed {loops:=[(0,[.reg 4 (.dat (.int .i64)),.ent 0 (nat_lit 341) Zgw])]} (fn:=Tryz.f337) Tryz.func337 (by kernel_rfl) (by kernel_rfl) ?_),
 (Zf Zq Zk mixed {} (fn:=Tryz.f125) Tryz.func125 (by kernel_rfl) (by kernel_rfl) ?_),
 (Zf Zq Zk mixed {} (fn:=Tryz.f209) Tryz.func209 (by kernel_rfl) (by kernel_rfl) ?_),
 (fun q0=>Zf Zq (Zd q0 Zk) mixed {} (fn:=Tryz.f344) Tryz.func344 (by kernel_rfl) (by kernel_rfl) ?_),
 (fun q0=>Zf Zq (Zd q0 Zk) mixed {} (fn:=Tryz.f367) Tryz.func367 (by kernel_rfl) (by kernel_rfl) ?_),
 (fun q0=>Zf Zq (Zd q0 Zk) mixed {loops:=[(0,[.reg 8 (.dat (.int .i64))])]} (fn:=Tryz.f361) Tryz.func361 (by kernel_rfl) (by kernel_rfl) ?_),
 (fun q0=>Zf Zq (Zd q0 Zk) mixed {loops:=[(0,[.reg 8 (.dat (.int .i64))])]} (fn:=Tryz.f361) Tryz.func361 (by kernel_rfl) (by kernel_rfl) ?_),
 (Zf Zq Zk mixed {loops:=[(0,[.reg 5 (.dat (.int .i64))])]} (fn:=Tryz.f317) Tryz.func317 (by kernel_rfl) (by kernel_rfl) ?_),
 (fun q1 q2 q4 q3 q0=>Zf Zq (Zd q1 (Zd q2 (Zd q4 (Zd q3 (Zd q0 Zk))))) mixed {loops:=[(0,[.reg 5 (.dat (.int .i64))]),(2,[.reg 7 (.dat (.int .i64))]),(5,[.reg 9 (.dat (.int .i64))])],draws:=[(13,[0,1,0,7,15,31,0,64,255,511,1023,2047,1023,8191,16383,32767,1023,66559,262143,524287,1048575,2097151,4194303,2097151,16777215,33554431,67108863,2097151,136314879,536870911,1073741823],.op 0 (.op 1 (.op 2 (.op 3 (.op 4 (.op 5 (.op 6 (.op 7 (.op 8 (.op 9 (.op 10 (.op 11 (.op 12 (.op 13 (.op 14 (.op 15 (.op 16 (.op 17 (.op 18 (.op 19 (.op 20 (.op 21 (.op 22 (.op 23 (.op 24 (.op 25 (.op 26 (.op 27 (.op 28 (.op 29 (.op 30 (.done)))))))))))))))))))))))))))))))),(25,[0,1,3,7,15,31,63,127,255,511,1023,2047,4095,511,8703,25087,57855,131071,262143,524287,1048575,2097151,4194303,8388607,16777215,33554431],.op 0 (.op 1 (.op 2 (.op 3 (.op 4 (.op 5 (.op 6 (.op 7 (.op 8 (.op 9 (.op 10 (.op 11 (.op 12 (.op 13 (.op 14 (.op 15 (.op 16 (.op 17 (.op 18 (.op 19 (.op 20 (.op 21 (.op 22 (.op 23 (.op 24 (.op 25 (.done)))))))))))))))))))))))))))]} (fn:=Tryz.f287) Tryz.func287 (by kernel_rfl) (by kernel_rfl) ?_),
 (fun q1 q0=>Zf Zq (Zd q1 (Zd q0 Zk)) mixed {loops:=[(0,[.reg 4 (.dat (.int .i64))])]} (fn:=Tryz.f174) Tryz.func174 (by kernel_rfl) (by kernel_rfl) ?_),
 (fun q0=>Zf Zq (Zd q0 Zk) mixed {draws:=[(1,[0,1,3,0,8,31,0,64,255,511,1023],.op 0 (.op 1 (.op 3 (.op 4 (.op 6 (.op 7 (.alt 2 (.alt 5 (.alt 8 (.op 9 (.alt 10 (.done) (.done))) (.done)) (.done)) (.done))))))))]} (fn:=Tryz.f309) Tryz.func309 (by kernel_rfl) (by kernel_rfl) ?_),
 (fun q0=>Zf Xa (Zd q0 Zk) mixed {loops:=[(0,[.reg 3 (.own (.ol 341 (Zgw))),.reg 4 (.dat (.int .i64))])]} (fn:=Tryz.f275) Tryz.func275 (by kernel_rfl) (by kernel_rfl) ?_),
 (fun q0 q1=>Zf Zq (Zd q0 (Zd q1 Zk)) mixed {loops:=[(0,[.reg 5 (.dat (.int .i64)),.reg 6 (.dat (.int .i64))]),(2,[.reg 8 (.dat (.int .i64))])],draws:=[(12,[0,1,0,7,15,31,0,64,255],.op 0 (.op 1 (.op 2 (.op 3 (.op 4 (.op 5 (.op 6 (.op 7 (.op 8 (.done))))))))))]} (fn:=Tryz.f320) Tryz.func320 (by kernel_rfl) (by kernel_rfl) ?_),
 (fun q0=>Zf Zq (Zd q0 Zk) mixed {loops:=[(0,[.reg 5 (.dat (.int .i64))])]} (fn:=Tryz.f341) Tryz.func341 (by kernel_rfl) (by kernel_rfl) ?_),
 (Zf Zq Zk mixed {} (fn:=Tryz.f316) Tryz.func316 (by kernel_rfl) (by kernel_rfl) ?_),
 (fun q0 q1 q2=>Zf Zq (Zd q0 (Zd q1 (Zd q2 Zk))) mixed {draws:=[(6,[0,1,3,0,8,31,63,127,255,511,1023,2047,4095,8191,1023,32767,65535,131071,262143,524287,1048575,262143,4194303,8388607,262143,17039359,67108863,134217727,268435455,536870911,1073741823,2147483647,4294967295,536870911,17179869183,34359738367],.op 0 (.op 1 (.op 2 (.op 3 (.op 4 (.op 5 (.op 6 (.alt 7 (.op 8 (.op 9 (.op 10 (.op 11 (.op 12 (.op 13 (.op 14 (.op 15 (.op 16 (.op 17 (.op 18 (.op 19 (.op 20 (.op 21 (.op 22 (.op 23 (.op 24 (.op 25 (.op 26 (.op 27 (.op 28 (.op 29 (.op 30 (.op 31 (.op 32 (.op 33 (.op 34 (.op 35 (.done))))))))))))))))))))))))))))) (.done)))))))))]} (fn:=Tryz.f319) Tryz.func319 (by kernel_rfl) (by kernel_rfl) ?_),
 (fun q0 q1=>Zf Zq (Zd q0 (Zd q1 Zk)) mixed {loops:=[(0,[.reg 4 (.dat (.int .i64)),.ent 2 (nat_lit 2) (.flat Zvn.ety)]),(2,[.reg 6 (.dat (.int .i64)),.ent 2 (nat_lit 2) (.flat Zvn.ety)])],draws:=[(9,[0,0,0,6,14,0,32,0,224,480,992,0,4064,8160,16383,32767],.op 0 (.op 1 (.op 2 (.op 3 (.op 4 (.op 5 (.op 6 (.op 7 (.op 8 (.op 9 (.op 10 (.op 11 (.op 12 (.op 13 (.op 14 (.alt 15 (.done) (.done)))))))))))))))))]} (fn:=Tryz.f226) Tryz.func226 (by kernel_rfl) (by kernel_rfl) ?_),
 (fun q1 q3 q2 q6 q0 q4 q7 q5 q8=>Zf Zq (Zd q1 (Zd q3 (Zd q2 (Zd q6 (Zd q0 (Zd q4 (Zd q7 (Zd q5 (Zd q8 Zk))))))))) mixed {draws:=[(5,[0,1,3,7,15,31,63,127,255,511,1023,255,2303,6399,255,16639,63743,129279,260351,524287,1048575,255,2097407,6291711,255,16777471,65011967,132120831,268435455,536870911,1073741823],.op 0 (.op 1 (.op 2 (.op 3 (.op 4 (.op 5 (.op 6 (.op 7 (.op 8 (.op 9 (.op 10 (.op 11 (.op 12 (.op 13 (.op 14 (.op 15 (.op 16 (.op 17 (.op 18 (.op 19 (.op 20 (.op 21 (.op 22 (.op 23 (.op 24 (.op 25 (.op 26 (.op 27 (.alt 28 (.op 29 (.op 30 (.done))) (.done)))))))))))))))))))))))))))))),(11,[0,0,2,7,15,31,63,127,255,255,767,2047,4095,8191,255,16639,65535,131071,262143],.op 0 (.op 1 (.op 2 (.op 3 (.op 4 (.op 5 (.op 6 (.op 7 (.op 8 (.op 9 (.op 10 (.op 11 (.op 12 (.op 13 (.op 14 (.op 15 (.op 16 (.op 17 (.op 18 (.done)))))))))))))))))))),(12,[0,1,0,4,0,16,60,124,255,511],.op 0 (.op 1 (.op 2 (.op 3 (.op 4 (.op 5 (.alt 6 (.op 7 (.alt 8 (.op 9 (.done)) (.done))) (.done))))))))]} (fn:=Tryz.f285) Tryz.func285 (by kernel_rfl) (by kernel_rfl) ?_),
 (fun q0 q1=>Zf Zq (Zd q0 (Zd q1 Zk)) mixed {} (fn:=Tryz.f170) Tryz.func170 (by kernel_rfl) (by kernel_rfl) ?_),
 (fun q0=>Zf Zq (Zd q0 Zk) mixed {loops:=[(0,[.reg 3 (.dat (.int .i64))]),(2,[.reg 4 (.dat (.int .i64))])],draws:=[(9,[0,0,3,7,15,0,0,96,224,480,1023],.op 0 (.op 1 (.op 2 (.op 3 (.op 4 (.op 5 (.op 6 (.op 7 (.op 8 (.op 9 (.op 10 (.done))))))))))))]} (fn:=Tryz.f93) Tryz.func93 (by kernel_rfl) (by kernel_rfl) ?_),
 (fun q0 q2 q1=>Zf Zq (Zd q0 (Zd q2 (Zd q1 Zk))) mixed {loops:=[(0,[.reg 10 (.dat (.int .i64))])],draws:=[(6,[0,1,0,4,12,31,63,127,255,511,1023,2047,2047,6143,16383,32767,65535,2047,133119,524287,1048575,2097151,4194303,8388607,16777215,8388607,41943039,109051903,243269631,536870911,1073741823,2147483647],.op 0 (.op 1 (.op 2 (.op 3 (.op 4 (.alt 5 (.op 6 (.op 7 (.op 8 (.op 9 (.op 10 (.op 11 (.op 12 (.op 13 (.op 14 (.op 15 (.op 16 (.op 17 (.op 18 (.op 19 (.op 20 (.op 21 (.op 22 (.op 23 (.op 24 (.op 25 (.op 26 (.op 27 (.op 28 (.alt 29 (.op 30 (.op 31 (.done))) (.done))))))))))))))))))))))))) (.done)))))))]} (fn:=Tryz.f96) Tryz.func96 (by kernel_rfl) (by kernel_rfl) ?_),
 (fun q1 q0=>Zf Xa (Zd q1 (Zd q0 Zk)) mixed {loops:=[(0,[.reg 6 (.own (.ol 150 (.flat (XF)))),.reg 7 (.dat (.int .i64))]),(2,[.reg 9 (.own (.ol 155 (ZaM))),.reg 10 (.dat (.bool)),.reg 11 (.dat (.int .i64))])],draws:=[(20,[0,0,2,0,14,0,32,0,254,0,0,2047,0,4095,16383],.op 0 (.op 1 (.op 2 (.op 3 (.op 5 (.op 6 (.op 7 (.op 9 (.op 10 (.op 12 (.alt 4 (.alt 8 (.op 11 (.alt 13 (.op 14 (.done)) (.done))) (.done)) (.done))))))))))))]} (fn:=Tryz.f49) Tryz.func49 (by kernel_rfl) (by kernel_rfl) ?_)⟩
 all_goals
  intro a
  repeat rcases a with ⟨_,a⟩
  rintro K ⟨r,h,hK⟩
  repeat'
    conv=>whnf
    first
    | with_reducible refine ZvK ?_
    | with_reducible refine ZeS (by assumption) (by assumption) (by assumption) ?_
    | with_reducible refine QO (by assumption) ?_
    | with_reducible refine ZeX (by assumption) ?_
    | (with_reducible refine shD ?_);first | refine ZsV h (fun h=>?_) (fun h=>?_) | refine Zvc h (fun h=>?_) (fun h=>?_)
    | (with_reducible refine Zvw ?_);first | refine Zzx ?_ | refine Zs3 ?_
    | (with_reducible refine ZAC ?_);first | refine ZuI h (fun h=>?_) (fun h=>?_) | refine Zvv h (fun h=>?_) (fun h=>?_)
    | (with_reducible refine Zva ?_);(refine ⟨fun hd=>?_,?_⟩)<;>try subst hd
    | (with_reducible refine ZAt ?_);first | with_reducible refine Zc5 h (fun x hb h=>?_) | refine ZeX (by assumption) ?_ | with_reducible refine pG h (fun hp h=>?_) | with_reducible refine pA h (fun x ha hb hx h=>?_) | with_reducible refine pB h (fun x hb h=>?_) | refine Zc5 h (fun x hb h=>?_)
    | (with_reducible refine ZAA ?_);first | with_reducible refine vAt h (fun x ha hb hx h=>?_) | refine ZeS (by assumption) (by assumption) (by assumption) ?_ | with_reducible refine pG h (fun hp h=>?_) | with_reducible refine pA h (fun x ha hb hx h=>?_) | with_reducible refine pB h (fun x hb h=>?_) | refine vAt h (fun x ha hb hx h=>?_)
    | (with_reducible refine ZvL ?_);first | with_reducible refine Zok h (fun x hb h=>?_) | refine QO (by assumption) ?_ | with_reducible refine pG h (fun hp h=>?_) | with_reducible refine pA h (fun x ha hb hx h=>?_) | with_reducible refine pB h (fun x hb h=>?_) | refine Zok h (fun x hb h=>?_)
    | with_reducible refine ZAF ?_
    | (with_reducible refine ZqE ?_);refine ZqA h hK ?_;clear h hK;intro I μ v r h hK;(repeat rcases v with ⟨_,v⟩);(try dsimp only at h)
    | with_reducible refine ⟨by assumption,?_⟩
    | with_reducible refine orL ?_
    | with_reducible refine .inr ?_
    | (with_reducible refine ZvB ?_);first | refine ⟨?_,True.intro⟩ | refine ⟨?_,?_⟩
    | refine ⟨by kernel_rfl,?_⟩
    | refine ⟨by decide,?_⟩
    | with_reducible refine ZpS h (fun hp h=>?_)
    | intro fp
    | exact trivial
    | with_reducible exact Zvu h
    | (refine pS h (fun e=>?_));subst e;(repeat (first | exact hK | exact ⟨⟨rfl,rfl⟩,hK.1 _ rfl⟩ | (refine pR hK (fun e hK=>?_));subst e));done
    | refine ZpS h (fun hp h=>?_)
    | refine ⟨by assumption,?_⟩
    | with_reducible refine pG h (fun hp h=>?_) | with_reducible refine pA h (fun x ha hb hx h=>?_) | with_reducible refine pB h (fun x hb h=>?_)
    | refine pG h (fun hp h=>?_)
    | fail
end Go.Proofs.YthkhedimjmkifaaGreatDoor
