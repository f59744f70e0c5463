/-
  The functions keep their contracts, if what they call does. Printed by program.
-/
import Derived.Test.YtoefbkmllkpkkaaGreatDoorM
import Derived.KernelRfl
namespace Go.Proofs.YtoefbkmllkpkkaaGreatDoor
open Go Go.Sx
set_option maxRecDepth 100000
set_option maxHeartbeats 3200000
set_option linter.unusedVariables false
set_option linter.unusedSimpArgs false
structure Ws0:Prop where
 w246:Zc Tryz.prog 178 ZCC→Zc Tryz.prog 150 Zv9→Zc Tryz.prog 234 c159→Zc Tryz.prog 174 c229→Zc Tryz.prog 179 ZCo→Zc Tryz.prog 180 ZC6→Zc Tryz.prog 176 ZFD
 w243:Zc Tryz.prog 150 Zv9→Zc Tryz.prog 178 ZCC
 w149:Zc Tryz.prog 295 c145→Zc Tryz.prog 296 c148→Zc Tryz.prog 278 ZGD
 w140:Zc Tryz.prog 322 ZFG
 w153:Zc Tryz.prog 296 c152→Zc Tryz.prog 299 ZFQ
 w144:Zc Tryz.prog 298 c143→Zc Tryz.prog 205 c119→Zc Tryz.prog 310 ZGW
 w143:Zc Tryz.prog 294 ZDE→Zc Tryz.prog 298 c143
 w201:Zc Tryz.prog 205 c119→Zc Tryz.prog 257 c201
 w248:Zc Tryz.prog 175 ZEQ→Zc Tryz.prog 150 Zv9→Zc Tryz.prog 176 ZFD→Zc Tryz.prog 177 ZGi→Zc Tryz.prog 178 ZCC→Zc Tryz.prog 179 ZCo→Zc Tryz.prog 180 ZC6→Zc Tryz.prog 181 ZDw→Zc Tryz.prog 105 ZGt
 w220:Zc Tryz.prog 214 ZB6→Zc Tryz.prog 262 ZFN→Zc Tryz.prog 230 ZFT
 w222:Zc Tryz.prog 230 ZFT→Zc Tryz.prog 231 ZEY→Zc Tryz.prog 205 c119→Zc Tryz.prog 223 c124→Zc Tryz.prog 167 c222
 w156:Zc Tryz.prog 244 ZEg→Zc Tryz.prog 223 c124→Zc Tryz.prog 199 c156
 w171:Zc Tryz.prog 155 c127→Zc Tryz.prog 205 c119→Zc Tryz.prog 206 ZGq→Zc Tryz.prog 207 c131→Zc Tryz.prog 151 c171
 w124:Zc Tryz.prog 214 ZB6→Zc Tryz.prog 259 ZF9→Zc Tryz.prog 223 c124
 w132:Zc Tryz.prog 229 ZDj
 w121:Zc Tryz.prog 294 ZDE
 w206:Zc Tryz.prog 162 ZDW→Zc Tryz.prog 161 c206
 w268:Zc Tryz.prog 235 ZEr→Zc Tryz.prog 236 ZFE→Zc Tryz.prog 114 ZBk→Zc Tryz.prog 183 ZGH
 w257:Zc Tryz.prog 114 ZBk→Zc Tryz.prog 108 ZF2
 w271:Zc Tryz.prog 114 ZBk→Zc Tryz.prog 184 ZFh
 w263:Zc Tryz.prog 269 ZFM→Zc Tryz.prog 235 ZEr
 w275:Zc Tryz.prog 185 ZFZ→Zc Tryz.prog 113 ZFB
 w253:Zc Tryz.prog 182 ZGM
 w301:Zc Tryz.prog 120 Zxw→Zc Tryz.prog 59 ZEA
 w305:Zc Tryz.prog 120 Zxw→Zc Tryz.prog 62 ZEn
 w297:Zc Tryz.prog 56 ZEP
 w289:Zc Tryz.prog 120 Zxw→Zc Tryz.prog 117 ZFo
 w284:Zc Tryz.prog 119 ZA9→Zc Tryz.prog 237 ZE3
 w281:Zc Tryz.prog 120 Zxw
 w294:Zc Tryz.prog 119 ZA9→Zc Tryz.prog 54 ZGe
 w7:Zc Tryz.prog 188 c1→Zc Tryz.prog 189 c6→Zc Tryz.prog 67 c2→Zc Tryz.prog 122 c7
 w15:Zc Tryz.prog 64 c11→Zc Tryz.prog 65 c12→Zc Tryz.prog 66 c14→Zc Tryz.prog 20 c15
 w22:Zc Tryz.prog 24 c22
 w2:Zc Tryz.prog 67 c2
 w43:Zc Tryz.prog 90 c39→Zc Tryz.prog 91 c40→Zc Tryz.prog 92 c42→Zc Tryz.prog 33 c43
 w29:Zc Tryz.prog 242 c28→Zc Tryz.prog 197 c29
 w41:Zc Tryz.prog 147 c41
 w42:Zc Tryz.prog 147 c41→Zc Tryz.prog 92 c42
 w57:Zc Tryz.prog 36 c49→Zc Tryz.prog 37 c52→Zc Tryz.prog 38 c54→Zc Tryz.prog 39 c56→Zc Tryz.prog 10 c57
 w148:Zc Tryz.prog 311 ZFq→Zc Tryz.prog 296 c148
 w167:Zc Tryz.prog 247 ZEu→Zc Tryz.prog 203 c167
 w123:Zc Tryz.prog 256 ZDX→Zc Tryz.prog 259 ZF9
 w207:Zc Tryz.prog 161 c206→Zc Tryz.prog 224 ZEK
 w122:Zc Tryz.prog 256 ZDX
 w75:Zc Tryz.prog 125 c71→Zc Tryz.prog 127 c73→Zc Tryz.prog 126 c74→Zc Tryz.prog 71 c75
 w106:Zc Tryz.prog 143 ZBh→Zc Tryz.prog 241 c105→Zc Tryz.prog 196 ZGG
 w110:Zc Tryz.prog 141 c107→Zc Tryz.prog 142 ZEU→Zc Tryz.prog 88 c109→Zc Tryz.prog 82 ZEt
 w79:Zc Tryz.prog 130 c79
 w87:Zc Tryz.prog 131 c58→Zc Tryz.prog 128 c59→Zc Tryz.prog 135 c87
set_option maxHeartbeats 100000000 in
theorem ws0:Ws0:=by
 refine ⟨(fun q1 q2 q3 q0 q5 q4=>Zi Yv (Zd q1 (Zd q2 (Zd q3 (Zd q0 (Zd q5 (Zd q4 Zl)))))) mixed {draws:=[(2,[0,1,3,7,15,0,32,127,255,0,1023],.op 0 (.op 1 (.op 2 (.op 3 (.op 5 (.op 6 (.alt 4 (.op 7 (.op 8 (.alt 9 (.alt 10 (.done) (.done)) (.done)))) (.alt 9 (.alt 4 (.op 7 (.op 8 (.alt 10 (.done) (.done)))) (.done)) (.done))))))))),(4,[0,1,3,7,15,31,0,64,192,448,960,2047,4095,8191],.op 0 (.op 1 (.op 2 (.op 3 (.op 4 (.op 6 (.op 7 (.op 8 (.op 9 (.op 10 (.alt 5 (.alt 11 (.op 12 (.op 13 (.done))) (.done)) (.done)))))))))))),(5,[0,0,2,6,14,30,0,64,0,256,0,1024,0,7168,16320,32704,65534,131071,262143,524287,1048575],.op 0 (.op 1 (.op 2 (.op 3 (.op 4 (.op 5 (.op 6 (.op 7 (.op 8 (.op 9 (.op 10 (.op 11 (.op 12 (.alt 13 (.op 14 (.alt 15 (.alt 16 (.op 17 (.op 18 (.op 19 (.alt 20 (.done) (.done))))) (.done)) (.done))) (.done))))))))))))))),(6,[0,0,2,6,14,30,0,64,192,510,1023,2047,4095,8191],.op 0 (.op 1 (.op 2 (.op 3 (.op 4 (.op 5 (.op 6 (.op 7 (.alt 8 (.alt 9 (.op 10 (.op 11 (.op 12 (.alt 13 (.done) (.done))))) (.done)) (.done))))))))))]} (fn:=Tryz.f176) Tryz.func176 (by kernel_rfl) (by kernel_rfl) ?_),
 (fun q0=>Zi Zq (Zd q0 Zl) mixed {loops:=[(0,[.reg 16 (.dat (.int .i64)),.entm 1 (Zuf.ty) (Zuf.ety),.ent 2 (nat_lit 3) (.flat Zu8.ety)])],draws:=[(7,[0,0,2,0,8,30,0,64,0,256,960,1984,4032,0,0,16384,57344,122880,262080,524224,1048575],.op 0 (.op 1 (.op 2 (.op 3 (.op 4 (.op 5 (.op 6 (.op 7 (.op 8 (.op 9 (.op 10 (.op 11 (.op 12 (.op 13 (.op 14 (.op 15 (.op 16 (.op 17 (.op 18 (.op 19 (.alt 20 (.done) (.done))))))))))))))))))))))]} (fn:=Tryz.f178) Tryz.func178 (by kernel_rfl) (by kernel_rfl) ?_),
 (fun q1 q0=>Zi Zq (Zd q1 (Zd q0 Zl)) mixed {loops:=[(0,[.reg 8 (.dat (.int .i64))])]} (fn:=Tryz.f278) Tryz.func278 (by kernel_rfl) (by kernel_rfl) ?_),
 (Zi Zq Zl mixed {} (fn:=Tryz.f322) Tryz.func322 (by kernel_rfl) (by kernel_rfl) ?_),
 (fun q0=>Zi Zq (Zd q0 Zl) mixed {} (fn:=Tryz.f299) Tryz.func299 (by kernel_rfl) (by kernel_rfl) ?_),
 (fun q0 q1=>Zi Zq (Zd q0 (Zd q1 Zl)) mixed {} (fn:=Tryz.f310) Tryz.func310 (by kernel_rfl) (by kernel_rfl) ?_),
 (fun q0=>Zi Zq (Zd q0 Zl) mixed {} (fn:=Tryz.f298) Tryz.func298 (by kernel_rfl) (by kernel_rfl) ?_),
 (fun q0=>Zi Zq (Zd q0 Zl) mixed {} (fn:=Tryz.f257) Tryz.func257 (by kernel_rfl) (by kernel_rfl) ?_),
 (fun q6 q1 q4 q0 q2 q5 q3 q7=>Zi Yv (Zd q6 (Zd q1 (Zd q4 (Zd q0 (Zd q2 (Zd q5 (Zd q3 (Zd q7 Zl)))))))) mixed {draws:=[(4,[0,1,3,0,8,24,0,64,248,504,1016,0,2048,8191,16383,32767],.op 0 (.op 1 (.op 2 (.op 3 (.op 4 (.op 6 (.op 7 (.op 11 (.op 12 (.alt 5 (.op 8 (.op 9 (.op 10 (.op 13 (.op 14 (.alt 15 (.done) (.done))))))) (.done))))))))))),(11,[0,1,3,0,8,31,63,0,255],.op 0 (.op 1 (.op 3 (.op 4 (.alt 2 (.op 5 (.op 6 (.alt 7 (.alt 8 (.done) (.done)) (.done)))) (.alt 7 (.alt 2 (.op 5 (.op 6 (.alt 8 (.done) (.done)))) (.done)) (.done))))))),(17,[0,1,0,4,0,16,48,127,255],.op 0 (.op 1 (.op 2 (.op 3 (.op 4 (.op 5 (.alt 6 (.op 7 (.alt 8 (.done) (.done))) (.done))))))))]} (fn:=Tryz.f105) Tryz.func105 (by kernel_rfl) (by kernel_rfl) ?_),
 (fun q1 q0=>Zi Zq (Zd q1 (Zd q0 Zl)) mixed {} (fn:=Tryz.f230) Tryz.func230 (by kernel_rfl) (by kernel_rfl) ?_),
 (fun q1 q0 q3 q2=>Zi Zq (Zd q1 (Zd q0 (Zd q3 (Zd q2 Zl)))) mixed {loops:=[(0,[.reg 3 (.own (.ol 9 (.flat (.str)))),.reg 8 (.dat (.int .i64))])]} (fn:=Tryz.f167) Tryz.func167 (by kernel_rfl) (by kernel_rfl) ?_),
 (fun q1 q0=>Zi Zq (Zd q1 (Zd q0 Zl)) mixed {loops:=[(0,[.reg 3 (.own (.ol 9 (.flat (.str)))),.reg 9 (.dat (.int .i64))])]} (fn:=Tryz.f199) Tryz.func199 (by kernel_rfl) (by kernel_rfl) ?_),
 (fun q0 q3 q1 q2=>Zi Zq (Zd q0 (Zd q3 (Zd q1 (Zd q2 Zl)))) mixed {} (fn:=Tryz.f151) Tryz.func151 (by kernel_rfl) (by kernel_rfl) ?_),
 (fun q1 q0=>Zi Zq (Zd q1 (Zd q0 Zl)) mixed {loops:=[(0,[.reg 7 (.dat (.int .i64))])]} (fn:=Tryz.f223) Tryz.func223 (by kernel_rfl) (by kernel_rfl) ?_),
 (Zi Zq Zl mixed {loops:=[(0,[.reg 3 (.dat (.int .i64))])],draws:=[(4,[0,0,2,7,15,0,0,96,224,511],.op 0 (.op 1 (.op 2 (.op 3 (.op 4 (.op 5 (.op 6 (.op 7 (.op 8 (.op 9 (.done)))))))))))]} (fn:=Tryz.f229) Tryz.func229 (by kernel_rfl) (by kernel_rfl) ?_),
 (Zi Zq Zl mixed {} (fn:=Tryz.f294) Tryz.func294 (by kernel_rfl) (by kernel_rfl) ?_),
 (fun q0=>Zi Zq (Zd q0 Zl) mixed {} (fn:=Tryz.f161) Tryz.func161 (by kernel_rfl) (by kernel_rfl) ?_),
 (fun q1 q2 q0=>Zi Zq (Zd q1 (Zd q2 (Zd q0 Zl))) mixed {} (fn:=Tryz.f183) Tryz.func183 (by kernel_rfl) (by kernel_rfl) ?_),
 (fun q0=>Zi Zq (Zd q0 Zl) mixed {} (fn:=Tryz.f108) Tryz.func108 (by kernel_rfl) (by kernel_rfl) ?_),
 (fun q0=>Zi Zq (Zd q0 Zl) mixed {} (fn:=Tryz.f184) Tryz.func184 (by kernel_rfl) (by kernel_rfl) ?_),
 (fun q0=>Zi Zq (Zd q0 Zl) mixed {loops:=[(0,[.reg 5 (.dat (.int .i64))])],draws:=[(6,[0,0,3,7,0,0,48,112,255,511],.op 0 (.op 1 (.op 2 (.op 3 (.op 4 (.op 5 (.op 6 (.op 7 (.alt 8 (.op 9 (.done)) (.done))))))))))]} (fn:=Tryz.f235) Tryz.func235 (by kernel_rfl) (by kernel_rfl) ?_),
 (fun q0=>Zi Zq (Zd q0 Zl) mixed {loops:=[(0,[.reg 5 (.dat (.int .i64))])],draws:=[(6,[0,0,3,7,0,0,48,112,255,511],.op 0 (.op 1 (.op 2 (.op 3 (.op 4 (.op 5 (.op 6 (.op 7 (.alt 8 (.op 9 (.done)) (.done))))))))))]} (fn:=Tryz.f113) Tryz.func113 (by kernel_rfl) (by kernel_rfl) ?_),
 (Zi Zq Zl mixed {} (fn:=Tryz.f182) Tryz.func182 (by kernel_rfl) (by kernel_rfl) ?_),
 (fun q0=>Zi Zq (Zd q0 Zl) mixed {loops:=[(0,[.reg 1 (.dat (.int .i64)),.reg 5 (.dat (.int .i64))])],draws:=[(4,[0,0,3,7,15,0,32,127],.op 0 (.op 1 (.op 2 (.op 3 (.op 4 (.op 5 (.alt 6 (.op 7 (.done)) (.done))))))))]} (fn:=Tryz.f59) Tryz.func59 (by kernel_rfl) (by kernel_rfl) ?_),
 (fun q0=>Zi Zq (Zd q0 Zl) mixed {loops:=[(0,[.reg 1 (.dat (.int .i64)),.reg 5 (.dat (.int .i64))])],draws:=[(4,[0,0,3,7,15,0,32,127],.op 0 (.op 1 (.op 2 (.op 3 (.op 4 (.op 5 (.alt 6 (.op 7 (.done)) (.done))))))))]} (fn:=Tryz.f62) Tryz.func62 (by kernel_rfl) (by kernel_rfl) ?_),
 (Zi Yv Zl mixed {loops:=[(0,[.reg 1 (.dat (.int .i64)),.reg 5 (.dat (.int .i64)),.ent 0 (nat_lit 163) (.flat Zx)])]} (fn:=Tryz.f56) Tryz.func56 (by kernel_rfl) (by kernel_rfl) ?_),
 (fun q0=>Zi Yv (Zd q0 Zl) mixed {loops:=[(0,[.reg 1 (.dat (.int .i64)),.reg 5 (.dat (.int .i64)),.ent 0 (nat_lit 9) (.flat Ty.str)])]} (fn:=Tryz.f117) Tryz.func117 (by kernel_rfl) (by kernel_rfl) ?_),
 (fun q0=>Zi Yv (Zd q0 Zl) mixed {loops:=[(0,[.reg 1 (.dat (.int .i64)),.reg 5 (.dat (.int .i64)),.ent 0 (nat_lit 337) (Dp.pair (Dp.ol (2:Go.TypeId) (Dp.flat (Ty.int IntKind.i64))) (Dp.pair (Dp.ol (2:Go.TypeId) (Dp.flat (Ty.int IntKind.i64))) (Dp.pair (Dp.ol (2:Go.TypeId) (Dp.flat (Ty.int IntKind.i64))) (Dp.flat Ty.unit))))])]} (fn:=Tryz.f237) Tryz.func237 (by kernel_rfl) (by kernel_rfl) ?_),
 (Zi Zq Zl mixed {loops:=[(0,[.reg 0 (.dat (.int .i64)),.reg 3 (.dat (.str))])]} (fn:=Tryz.f120) Tryz.func120 (by kernel_rfl) (by kernel_rfl) ?_),
 (fun q0=>Zi Yv (Zd q0 Zl) mixed {} (fn:=Tryz.f54) Tryz.func54 (by kernel_rfl) (by kernel_rfl) ?_),
 (fun q1 q2 q0=>Zi Zq (Zd q1 (Zd q2 (Zd q0 Zl))) mixed {} (fn:=Tryz.f122) Tryz.func122 (by kernel_rfl) (by kernel_rfl) ?_),
 (fun q0 q1 q2=>Zi Zq (Zd q0 (Zd q1 (Zd q2 Zl))) mixed {} (fn:=Tryz.f20) Tryz.func20 (by kernel_rfl) (by kernel_rfl) ?_),
 (Zi Zq Zl mixed {} (fn:=Tryz.f24) Tryz.func24 (by kernel_rfl) (by kernel_rfl) ?_),
 (Zi Zq Zl mixed {} (fn:=Tryz.f67) Tryz.func67 (by kernel_rfl) (by kernel_rfl) ?_),
 (fun q0 q1 q2=>Zi Yv (Zd q0 (Zd q1 (Zd q2 Zl))) mixed {} (fn:=Tryz.f33) Tryz.func33 (by kernel_rfl) (by kernel_rfl) ?_),
 (fun q0=>Zi Zq (Zd q0 Zl) mixed {loops:=[(0,[.reg 4 (.dat (.int .i64)),.ent 0 (nat_lit 274) (.flat ZyO.ety)])]} (fn:=Tryz.f197) Tryz.func197 (by kernel_rfl) (by kernel_rfl) ?_),
 (Zi Zq Zl mixed {} (fn:=Tryz.f147) Tryz.func147 (by kernel_rfl) (by kernel_rfl) ?_),
 (fun q0=>Zi Zq (Zd q0 Zl) mixed {loops:=[(0,[.reg 4 (.dat (.int .i64)),.ent 0 (nat_lit 217) (.flat ZCZ.ety)])]} (fn:=Tryz.f92) Tryz.func92 (by kernel_rfl) (by kernel_rfl) ?_),
 (fun q3 q1 q0 q2=>Zi Yv (Zd q3 (Zd q1 (Zd q0 (Zd q2 Zl)))) mixed {} (fn:=Tryz.f10) Tryz.func10 (by kernel_rfl) (by kernel_rfl) ?_),
 (fun q0=>Zi Zq (Zd q0 Zl) mixed {} (fn:=Tryz.f296) Tryz.func296 (by kernel_rfl) (by kernel_rfl) ?_),
 (fun q0=>Zi Zq (Zd q0 Zl) mixed {} (fn:=Tryz.f203) Tryz.func203 (by kernel_rfl) (by kernel_rfl) ?_),
 (fun q0=>Zi Zq (Zd q0 Zl) mixed {} (fn:=Tryz.f259) Tryz.func259 (by kernel_rfl) (by kernel_rfl) ?_),
 (fun q0=>Zi Zq (Zd q0 Zl) mixed {loops:=[(0,[.reg 8 (.dat (.int .i64))])]} (fn:=Tryz.f224) Tryz.func224 (by kernel_rfl) (by kernel_rfl) ?_),
 (Zi Zq Zl mixed {loops:=[(0,[.reg 8 (.dat (.int .i64))])]} (fn:=Tryz.f256) Tryz.func256 (by kernel_rfl) (by kernel_rfl) ?_),
 (fun q0 q1 q2=>Zi Zq (Zd q0 (Zd q1 (Zd q2 Zl))) mixed {loops:=[(0,[.reg 3 (.dat (.int .i64))])],draws:=[(6,[0,1,0,7,15,0,32,0,224,480,1023,2047],.op 0 (.op 1 (.op 2 (.op 3 (.op 4 (.op 5 (.op 6 (.op 7 (.alt 8 (.op 9 (.alt 10 (.op 11 (.done)) (.done))) (.done))))))))))]} (fn:=Tryz.f71) Tryz.func71 (by kernel_rfl) (by kernel_rfl) ?_),
 (fun q1 q0=>Zi Yv (Zd q1 (Zd q0 Zl)) mixed {loops:=[(0,[.reg 4 (.dat (.int .i64)),.cello 1003 3 (.ol 292 (Zxk))])],draws:=[(1,[0,1,0,4,0,0,32,112,0,256,1008,0,2048,0,8192,32767,0,131071],.op 0 (.op 2 (.op 5 (.op 6 (.op 8 (.op 11 (.op 13 (.ld 1 (.ld 3 (.ld 9 (.ld 12 (.ld 14 (.alt 4 (.alt 7 (.alt 10 (.op 15 (.alt 16 (.alt 17 (.done) (.done)) (.done))) (.alt 16 (.alt 10 (.op 15 (.alt 17 (.done) (.done))) (.done)) (.done))) (.alt 16 (.alt 7 (.alt 10 (.op 15 (.alt 17 (.done) (.done))) (.done)) (.done)) (.done))) (.alt 16 (.alt 4 (.alt 7 (.alt 10 (.op 15 (.alt 17 (.done) (.done))) (.done)) (.done)) (.done)) (.done)))))))))))))))]} (fn:=Tryz.f196) Tryz.func196 (by kernel_rfl) (by kernel_rfl) ?_),
 (fun q0 q2 q1=>Zi Yv (Zd q0 (Zd q2 (Zd q1 Zl))) mixed {loops:=[(0,[.reg 4 (.dat (.int .i64)),.cello 1003 4 (.ol 66 (Zlc))])],draws:=[(1,[0,1,3,0,8,31,63,0,255],.op 0 (.op 1 (.op 3 (.op 4 (.alt 2 (.alt 5 (.op 6 (.alt 7 (.alt 8 (.done) (.done)) (.done))) (.alt 7 (.alt 5 (.op 6 (.alt 8 (.done) (.done))) (.done)) (.done))) (.alt 7 (.alt 2 (.alt 5 (.op 6 (.alt 8 (.done) (.done))) (.done)) (.done)) (.done))))))),(5,[0,1,0,4,0,28,60,124,252,511,1023,2047],.op 0 (.op 1 (.op 2 (.op 3 (.op 4 (.op 5 (.op 6 (.alt 7 (.alt 8 (.alt 9 (.op 10 (.alt 11 (.done) (.done))) (.done)) (.done)) (.done)))))))))]} (fn:=Tryz.f82) Tryz.func82 (by kernel_rfl) (by kernel_rfl) ?_),
 (Zi Zq Zl mixed {} (fn:=Tryz.f130) Tryz.func130 (by kernel_rfl) (by kernel_rfl) ?_),
 (fun q0 q1=>Zi Zq (Zd q0 (Zd q1 Zl)) mixed {} (fn:=Tryz.f135) Tryz.func135 (by kernel_rfl) (by kernel_rfl) ?_)⟩
 all_goals
  intro a
  repeat rcases a with ⟨_,a⟩
  rintro K ⟨r,h,hK⟩
  repeat'
    conv=>whnf
    first
    | with_reducible refine ZwB ?_
    | with_reducible refine ZfW (by assumption) (by assumption) (by assumption) ?_
    | with_reducible refine Vd (by assumption) ?_
    | with_reducible refine Zf1 (by assumption) ?_
    | (with_reducible refine shD ?_);first | refine Zo7 h (fun h=>?_) (fun h=>?_) | refine ZuW h (fun h=>?_) (fun h=>?_)
    | (with_reducible refine Zxc ?_);first | refine ZxD ?_ | refine Zng ?_
    | (with_reducible refine ZCb ?_);first | refine ZtV h (fun h=>?_) (fun h=>?_) | refine Zxf h (fun h=>?_) (fun h=>?_)
    | (with_reducible refine ZwQ ?_);(refine ⟨fun hd=>?_,?_⟩)<;>try subst hd
    | (with_reducible refine ZCj ?_);first | with_reducible refine ZbB h (fun x hb h=>?_) | refine Zf1 (by assumption) ?_ | with_reducible refine pG h (fun hp h=>?_) | with_reducible refine pA h (fun x ha hb hx h=>?_) | with_reducible refine pB h (fun x hb h=>?_) | refine ZbB h (fun x hb h=>?_)
    | (with_reducible refine ZB5 ?_);first | with_reducible refine vAt h (fun x ha hb hx h=>?_) | refine ZfW (by assumption) (by assumption) (by assumption) ?_ | with_reducible refine pG h (fun hp h=>?_) | with_reducible refine pA h (fun x ha hb hx h=>?_) | with_reducible refine pB h (fun x hb h=>?_) | refine vAt h (fun x ha hb hx h=>?_)
    | (with_reducible refine Zxa ?_);first | with_reducible refine ZpJ h (fun x hb h=>?_) | refine Vd (by assumption) ?_ | with_reducible refine pG h (fun hp h=>?_) | with_reducible refine pA h (fun x ha hb hx h=>?_) | with_reducible refine pB h (fun x hb h=>?_) | refine ZpJ h (fun x hb h=>?_)
    | with_reducible refine ZB7 ?_
    | (with_reducible refine Zsj ?_);refine ZrZ h hK ?_;clear h hK;intro I μ v r h hK;(repeat rcases v with ⟨_,v⟩);(try dsimp only at h)
    | with_reducible refine ⟨by assumption,?_⟩
    | with_reducible refine orL ?_
    | with_reducible refine .inr ?_
    | (with_reducible refine Zxb ?_);first | refine ⟨?_,True.intro⟩ | refine ⟨?_,?_⟩
    | refine ⟨by kernel_rfl,?_⟩
    | refine ⟨by decide,?_⟩
    | with_reducible refine Zrq h (fun hp h=>?_)
    | intro fp
    | exact trivial
    | with_reducible exact Zw1 h
    | (refine pS h (fun e=>?_));subst e;(repeat (first | exact hK | exact ⟨⟨rfl,rfl⟩,hK.1 _ rfl⟩ | (refine pR hK (fun e hK=>?_));subst e));done
    | refine Zrq h (fun hp h=>?_)
    | refine ⟨by assumption,?_⟩
    | with_reducible refine pG h (fun hp h=>?_) | with_reducible refine pA h (fun x ha hb hx h=>?_) | with_reducible refine pB h (fun x hb h=>?_)
    | refine pG h (fun hp h=>?_)
    | fail
theorem ZJH (q1:Zc Tryz.prog 77 c72) (q4:Zc Tryz.prog 85 ZDa) (q5:Zc Tryz.prog 143 ZBh) (q0:Zc Tryz.prog 86 ZDc) (q2:Zc Tryz.prog 144 ZEv) (q3:Zc Tryz.prog 87 ZCJ):Zc Tryz.prog 83 ZFJ:=by
 refine Zi Yv (Zd q1 (Zd q4 (Zd q5 (Zd q0 (Zd q2 (Zd q3 Zl)))))) mixed {draws:=[(1,[0,1,3,0,8,31,63,0,255],.op 0 (.op 1 (.op 3 (.op 4 (.alt 2 (.op 5 (.op 6 (.alt 7 (.alt 8 (.done) (.done)) (.done)))) (.alt 7 (.alt 2 (.op 5 (.op 6 (.alt 8 (.done) (.done)))) (.done)) (.done))))))),(5,[0,0,3,7,0,0,32,112,240,496,1023,2047],.op 0 (.op 1 (.op 4 (.op 5 (.op 6 (.op 7 (.op 8 (.alt 2 (.alt 3 (.alt 9 (.alt 10 (.op 11 (.done)) (.done)) (.done)) (.alt 9 (.alt 3 (.alt 10 (.op 11 (.done)) (.done)) (.done)) (.done))) (.alt 9 (.alt 2 (.alt 3 (.alt 10 (.op 11 (.done)) (.done)) (.done)) (.done)) (.done)))))))))),(14,[0,1,3,0,8,31,0,64,192,0,512,1536,4095,0,8192,24576,65535,0,262143],.op 0 (.op 1 (.op 2 (.op 3 (.op 6 (.op 7 (.op 9 (.op 13 (.op 14 (.ld 8 (.ld 10 (.ld 15 (.alt 4 (.alt 5 (.alt 11 (.alt 12 (.op 16 (.alt 17 (.alt 18 (.done) (.done)) (.done))) (.alt 17 (.alt 12 (.op 16 (.alt 18 (.done) (.done))) (.done)) (.done))) (.alt 17 (.alt 11 (.alt 12 (.op 16 (.alt 18 (.done) (.done))) (.done)) (.done)) (.done))) (.alt 11 (.alt 5 (.alt 12 (.op 16 (.alt 17 (.alt 18 (.done) (.done)) (.done))) (.alt 17 (.alt 12 (.op 16 (.alt 18 (.done) (.done))) (.done)) (.done))) (.alt 17 (.alt 5 (.alt 12 (.op 16 (.alt 18 (.done) (.done))) (.done)) (.done)) (.done))) (.alt 17 (.alt 5 (.alt 11 (.alt 12 (.op 16 (.alt 18 (.done) (.done))) (.done)) (.done)) (.alt 11 (.alt 5 (.alt 12 (.op 16 (.alt 18 (.done) (.done))) (.done)) (.done)) (.done))) (.done)))) (.alt 11 (.alt 4 (.alt 5 (.alt 12 (.op 16 (.alt 17 (.alt 18 (.done) (.done)) (.done))) (.alt 17 (.alt 12 (.op 16 (.alt 18 (.done) (.done))) (.done)) (.done))) (.alt 17 (.alt 5 (.alt 12 (.op 16 (.alt 18 (.done) (.done))) (.done)) (.done)) (.done))) (.alt 17 (.alt 4 (.alt 5 (.alt 12 (.op 16 (.alt 18 (.done) (.done))) (.done)) (.done)) (.done)) (.done))) (.alt 17 (.alt 4 (.alt 5 (.alt 11 (.alt 12 (.op 16 (.alt 18 (.done) (.done))) (.done)) (.done)) (.alt 11 (.alt 5 (.alt 12 (.op 16 (.alt 18 (.done) (.done))) (.done)) (.done)) (.done))) (.alt 11 (.alt 4 (.alt 5 (.alt 12 (.op 16 (.alt 18 (.done) (.done))) (.done)) (.done)) (.done)) (.done))) (.done)))))))))))))))),(15,[0,1,0,0,8,0,32,120,255,0,1023,2047],.op 0 (.op 3 (.op 4 (.op 9 (.ld 1 (.ld 2 (.alt 5 (.alt 6 (.alt 7 (.op 8 (.alt 10 (.alt 11 (.done) (.done)) (.done))) (.done)) (.done)) (.done))))))))]} (fn:=Tryz.f83) Tryz.func83 (by kernel_rfl) (by kernel_rfl) ?_
 rintro ⟨a0,a1,⟨⟩⟩ K ⟨r,h,hK⟩
 change Zbl a0 a1=some r at h
 unfold Zbl at h
 focus
  conv=>whnf
  intro fp0
  conv=>whnf
  intro fp1
  conv=>whnf
  intro fp2
  conv=>whnf
  refine ⟨by kernel_rfl,?_⟩
  conv=>whnf
  obtain ⟨l05Places0,hb3,h⟩:=Option.bind_eq_some_iff.1 h
  obtain ⟨x0,he4a,he4b,he4x,h⟩:=atE h
  refine ⟨?_,?_⟩
  rotate_left
  focus
   conv=>whnf
   refine ⟨_,hb3,?_⟩
   conv=>whnf
   refine ⟨he4a,he4b,Vd he4x ?_⟩
   conv=>whnf
   refine ⟨by kernel_rfl,?_⟩
   conv=>whnf
   refine ⟨he4a,he4b,Vd he4x ?_⟩
   conv=>whnf
   refine ⟨trivial,?_⟩
  rotate_right
  focus
   conv=>whnf
   refine ⟨_,hb3,?_⟩
   conv=>whnf
   refine ⟨he4a,he4b,Vd he4x ?_⟩
   conv=>whnf
   refine ⟨by kernel_rfl,?_⟩
   conv=>whnf
   refine ⟨he4a,he4b,Vd he4x ?_⟩
   conv=>whnf
   refine ⟨trivial,?_⟩
  all_goals
   focus
    conv=>whnf
    refine ZbB h (fun l08Nodes0 hb5 h=>?_)
    conv=>whnf
    refine ⟨by kernel_rfl,?_⟩
    conv=>whnf
    refine vAt h (fun x1 he6a he6b he6x h=>?_)
    conv=>whnf
    refine ⟨by kernel_rfl,?_⟩
    conv=>whnf
    refine ⟨he6a,he6b,Vd he6x ?_⟩
    conv=>whnf
    obtain ⟨hp7,h⟩:=guardE h
    obtain ⟨hp8,h⟩:=guardE h
    obtain ⟨l02Ints0,hb9,h⟩:=Option.bind_eq_some_iff.1 h
    obtain ⟨hp10,h⟩:=guardE h
    refine ⟨?_,?_⟩
    rotate_left
    focus
     conv=>whnf
     refine ⟨by decide,?_⟩
     conv=>whnf
     refine ⟨hp7,?_⟩
     conv=>whnf
     refine ⟨hp8,?_⟩
     conv=>whnf
     refine ⟨_,hb9,?_⟩
     conv=>whnf
     refine ⟨hp10,?_⟩
     conv=>whnf
     refine ⟨trivial,?_⟩
    rotate_right
    focus
     conv=>whnf
     refine ⟨by decide,?_⟩
     conv=>whnf
     refine ⟨hp7,?_⟩
     conv=>whnf
     refine ⟨hp8,?_⟩
     conv=>whnf
     refine ⟨?_,?_⟩
     rotate_left
     focus
      conv=>whnf
      refine ⟨_,hb9,?_⟩
      conv=>whnf
      refine ⟨hp10,?_⟩
      conv=>whnf
      refine ⟨trivial,?_⟩
     rotate_right
     focus
      conv=>whnf
      refine ⟨_,hb9,?_⟩
      conv=>whnf
      refine ⟨hp10,?_⟩
      conv=>whnf
      refine ⟨trivial,?_⟩
    all_goals
     conv=>whnf
     refine ⟨hp7,?_⟩
     conv=>whnf
     refine ⟨hp8,?_⟩
     conv=>whnf
     refine Zrq h (fun hp11 h=>?_)
     conv=>whnf
     refine Zrq h (fun hp12 h=>?_)
     conv=>whnf
     refine ZbB h (fun l08Connect0 hb13 h=>?_)
     conv=>whnf
     intro fp14
     conv=>whnf
     refine Zo7 h (fun h=>?_) (fun h=>?_)
     focus
      conv=>whnf
      refine vAt h (fun x2 he15a he15b he15x h=>?_)
      conv=>whnf
      refine ⟨by kernel_rfl,?_⟩
      conv=>whnf
      refine ⟨by decide,?_⟩
      conv=>whnf
      refine ⟨he15a,he15b,Vd he15x ?_⟩
      conv=>whnf
      refine ⟨by kernel_rfl,?_⟩
      conv=>whnf
      refine ⟨by kernel_rfl,?_⟩
      conv=>whnf
      refine ⟨by kernel_rfl,?_⟩
      conv=>whnf
      refine ⟨by kernel_rfl,?_⟩
      conv=>whnf
      obtain ⟨hp17,h⟩:=guardE h
      obtain ⟨hp19,h⟩:=guardE h
      refine ⟨?_,?_⟩
      rotate_left
      focus
       conv=>whnf
       refine ⟨?_,?_⟩
       rotate_left
       focus
        conv=>whnf
        refine ⟨?_,?_⟩
        rotate_left
        focus
         conv=>whnf
         intro fp29
         conv=>whnf
         refine ⟨by kernel_rfl,?_⟩
         conv=>whnf
         refine ⟨hp17,?_⟩
         conv=>whnf
         intro fp30
         conv=>whnf
         refine ⟨by kernel_rfl,?_⟩
         conv=>whnf
         refine ⟨hp19,?_⟩
         conv=>whnf
         refine ⟨trivial,?_⟩
        rotate_right
        focus
         conv=>whnf
         intro fp29
         conv=>whnf
         refine ⟨?_,?_⟩
         rotate_left
         focus
          conv=>whnf
          refine ⟨by kernel_rfl,?_⟩
          conv=>whnf
          refine ⟨hp17,?_⟩
          conv=>whnf
          intro fp30
          conv=>whnf
          refine ⟨by kernel_rfl,?_⟩
          conv=>whnf
          refine ⟨hp19,?_⟩
          conv=>whnf
          refine ⟨trivial,?_⟩
         rotate_right
         focus
          conv=>whnf
          refine ⟨by kernel_rfl,?_⟩
          conv=>whnf
          refine ⟨hp17,?_⟩
          conv=>whnf
          intro fp30
          conv=>whnf
          refine ⟨by kernel_rfl,?_⟩
          conv=>whnf
          refine ⟨hp19,?_⟩
          conv=>whnf
          refine ⟨trivial,?_⟩
       rotate_right
       focus
        conv=>whnf
        refine ⟨?_,?_⟩
        rotate_left
        focus
         conv=>whnf
         intro fp29
         conv=>whnf
         refine ⟨by kernel_rfl,?_⟩
         conv=>whnf
         refine ⟨hp17,?_⟩
         conv=>whnf
         intro fp30
         conv=>whnf
         refine ⟨by kernel_rfl,?_⟩
         conv=>whnf
         refine ⟨hp19,?_⟩
         conv=>whnf
         refine ⟨trivial,?_⟩
        rotate_right
        focus
         conv=>whnf
         intro fp29
         conv=>whnf
         refine ⟨?_,?_⟩
         rotate_left
         focus
          conv=>whnf
          refine ⟨by kernel_rfl,?_⟩
          conv=>whnf
          refine ⟨hp17,?_⟩
          conv=>whnf
          intro fp30
          conv=>whnf
          refine ⟨by kernel_rfl,?_⟩
          conv=>whnf
          refine ⟨hp19,?_⟩
          conv=>whnf
          refine ⟨trivial,?_⟩
         rotate_right
         focus
          conv=>whnf
          refine ⟨by kernel_rfl,?_⟩
          conv=>whnf
          refine ⟨hp17,?_⟩
          conv=>whnf
          intro fp30
          conv=>whnf
          refine ⟨?_,?_⟩
          rotate_left
          focus
           conv=>whnf
           refine ⟨by kernel_rfl,?_⟩
           conv=>whnf
           refine ⟨hp19,?_⟩
           conv=>whnf
           refine ⟨trivial,?_⟩
          rotate_right
          focus
           conv=>whnf
           refine ⟨by kernel_rfl,?_⟩
           conv=>whnf
           refine ⟨hp19,?_⟩
           conv=>whnf
           refine ⟨trivial,?_⟩
      rotate_right
      focus
       conv=>whnf
       intro fp29
       conv=>whnf
       refine ⟨?_,?_⟩
       rotate_left
       focus
        conv=>whnf
        refine ⟨?_,?_⟩
        rotate_left
        focus
         conv=>whnf
         refine ⟨?_,?_⟩
         rotate_left
         focus
          conv=>whnf
          refine ⟨by kernel_rfl,?_⟩
          conv=>whnf
          refine ⟨hp17,?_⟩
          conv=>whnf
          intro fp30
          conv=>whnf
          refine ⟨by kernel_rfl,?_⟩
          conv=>whnf
          refine ⟨hp19,?_⟩
          conv=>whnf
          refine ⟨trivial,?_⟩
         rotate_right
         focus
          conv=>whnf
          refine ⟨by kernel_rfl,?_⟩
          conv=>whnf
          refine ⟨hp17,?_⟩
          conv=>whnf
          intro fp30
          conv=>whnf
          refine ⟨by kernel_rfl,?_⟩
          conv=>whnf
          refine ⟨hp19,?_⟩
          conv=>whnf
          refine ⟨trivial,?_⟩
        rotate_right
        focus
         conv=>whnf
         refine ⟨?_,?_⟩
         rotate_left
         focus
          conv=>whnf
          refine ⟨by kernel_rfl,?_⟩
          conv=>whnf
          refine ⟨hp17,?_⟩
          conv=>whnf
          intro fp30
          conv=>whnf
          refine ⟨by kernel_rfl,?_⟩
          conv=>whnf
          refine ⟨hp19,?_⟩
          conv=>whnf
          refine ⟨trivial,?_⟩
         rotate_right
         focus
          conv=>whnf
          refine ⟨by kernel_rfl,?_⟩
          conv=>whnf
          refine ⟨hp17,?_⟩
          conv=>whnf
          intro fp30
          conv=>whnf
          refine ⟨?_,?_⟩
          rotate_left
          focus
           conv=>whnf
           refine ⟨by kernel_rfl,?_⟩
           conv=>whnf
           refine ⟨hp19,?_⟩
           conv=>whnf
           refine ⟨trivial,?_⟩
          rotate_right
          focus
           conv=>whnf
           refine ⟨by kernel_rfl,?_⟩
           conv=>whnf
           refine ⟨hp19,?_⟩
           conv=>whnf
           refine ⟨trivial,?_⟩
       rotate_right
       focus
        conv=>whnf
        refine ⟨by kernel_rfl,?_⟩
        conv=>whnf
        refine ⟨hp17,?_⟩
        conv=>whnf
        intro fp30
        conv=>whnf
        refine ⟨?_,?_⟩
        rotate_left
        focus
         conv=>whnf
         refine ⟨by kernel_rfl,?_⟩
         conv=>whnf
         refine ⟨hp19,?_⟩
         conv=>whnf
         refine ⟨trivial,?_⟩
        rotate_right
        focus
         conv=>whnf
         refine ⟨?_,?_⟩
         rotate_left
         focus
          conv=>whnf
          refine ⟨by kernel_rfl,?_⟩
          conv=>whnf
          refine ⟨hp19,?_⟩
          conv=>whnf
          refine ⟨trivial,?_⟩
         rotate_right
         focus
          conv=>whnf
          refine ⟨by kernel_rfl,?_⟩
          conv=>whnf
          refine ⟨hp19,?_⟩
          conv=>whnf
          refine ⟨trivial,?_⟩
      all_goals
       conv=>whnf
       refine ⟨by kernel_rfl,?_⟩
       conv=>whnf
       refine ⟨by kernel_rfl,?_⟩
       conv=>whnf
       refine ⟨by kernel_rfl,?_⟩
       conv=>whnf
       refine ZbB h (fun l07Lumped0 hb20 h=>?_)
       conv=>whnf
       intro fp21
       conv=>whnf
       refine ⟨by kernel_rfl,?_⟩
       conv=>whnf
       refine Zrq h (fun hp22 h=>?_)
       conv=>whnf
       intro fp23
       conv=>whnf
       refine ZbB h (fun l08Attach0 hb24 h=>?_)
       conv=>whnf
       intro fp25
       conv=>whnf
       intro fp26
       conv=>whnf
       intro fp27
       conv=>whnf
       refine ⟨trivial,?_⟩
       conv=>whnf
       cases h
       exact hK
     focus
      conv=>whnf
      refine vAt h (fun x2 he31a he31b he31x h=>?_)
      conv=>whnf
      refine ⟨by kernel_rfl,?_⟩
      conv=>whnf
      refine ⟨by decide,?_⟩
      conv=>whnf
      refine ⟨he31a,he31b,Vd he31x ?_⟩
      conv=>whnf
      refine ⟨by kernel_rfl,?_⟩
      conv=>whnf
      refine ⟨by kernel_rfl,?_⟩
      conv=>whnf
      refine ⟨by kernel_rfl,?_⟩
      conv=>whnf
      refine ⟨by kernel_rfl,?_⟩
      conv=>whnf
      obtain ⟨hp33,h⟩:=guardE h
      obtain ⟨hp35,h⟩:=guardE h
      refine ⟨?_,?_⟩
      rotate_left
      focus
       conv=>whnf
       refine ⟨?_,?_⟩
       rotate_left
       focus
        conv=>whnf
        refine ⟨?_,?_⟩
        rotate_left
        focus
         conv=>whnf
         intro fp45
         conv=>whnf
         refine ⟨by kernel_rfl,?_⟩
         conv=>whnf
         refine ⟨hp33,?_⟩
         conv=>whnf
         intro fp46
         conv=>whnf
         refine ⟨by kernel_rfl,?_⟩
         conv=>whnf
         refine ⟨hp35,?_⟩
         conv=>whnf
         refine ⟨trivial,?_⟩
        rotate_right
        focus
         conv=>whnf
         intro fp45
         conv=>whnf
         refine ⟨?_,?_⟩
         rotate_left
         focus
          conv=>whnf
          refine ⟨by kernel_rfl,?_⟩
          conv=>whnf
          refine ⟨hp33,?_⟩
          conv=>whnf
          intro fp46
          conv=>whnf
          refine ⟨by kernel_rfl,?_⟩
          conv=>whnf
          refine ⟨hp35,?_⟩
          conv=>whnf
          refine ⟨trivial,?_⟩
         rotate_right
         focus
          conv=>whnf
          refine ⟨by kernel_rfl,?_⟩
          conv=>whnf
          refine ⟨hp33,?_⟩
          conv=>whnf
          intro fp46
          conv=>whnf
          refine ⟨by kernel_rfl,?_⟩
          conv=>whnf
          refine ⟨hp35,?_⟩
          conv=>whnf
          refine ⟨trivial,?_⟩
       rotate_right
       focus
        conv=>whnf
        refine ⟨?_,?_⟩
        rotate_left
        focus
         conv=>whnf
         intro fp45
         conv=>whnf
         refine ⟨by kernel_rfl,?_⟩
         conv=>whnf
         refine ⟨hp33,?_⟩
         conv=>whnf
         intro fp46
         conv=>whnf
         refine ⟨by kernel_rfl,?_⟩
         conv=>whnf
         refine ⟨hp35,?_⟩
         conv=>whnf
         refine ⟨trivial,?_⟩
        rotate_right
        focus
         conv=>whnf
         intro fp45
         conv=>whnf
         refine ⟨?_,?_⟩
         rotate_left
         focus
          conv=>whnf
          refine ⟨by kernel_rfl,?_⟩
          conv=>whnf
          refine ⟨hp33,?_⟩
          conv=>whnf
          intro fp46
          conv=>whnf
          refine ⟨by kernel_rfl,?_⟩
          conv=>whnf
          refine ⟨hp35,?_⟩
          conv=>whnf
          refine ⟨trivial,?_⟩
         rotate_right
         focus
          conv=>whnf
          refine ⟨by kernel_rfl,?_⟩
          conv=>whnf
          refine ⟨hp33,?_⟩
          conv=>whnf
          intro fp46
          conv=>whnf
          refine ⟨?_,?_⟩
          rotate_left
          focus
           conv=>whnf
           refine ⟨by kernel_rfl,?_⟩
           conv=>whnf
           refine ⟨hp35,?_⟩
           conv=>whnf
           refine ⟨trivial,?_⟩
          rotate_right
          focus
           conv=>whnf
           refine ⟨by kernel_rfl,?_⟩
           conv=>whnf
           refine ⟨hp35,?_⟩
           conv=>whnf
           refine ⟨trivial,?_⟩
      rotate_right
      focus
       conv=>whnf
       intro fp45
       conv=>whnf
       refine ⟨?_,?_⟩
       rotate_left
       focus
        conv=>whnf
        refine ⟨?_,?_⟩
        rotate_left
        focus
         conv=>whnf
         refine ⟨?_,?_⟩
         rotate_left
         focus
          conv=>whnf
          refine ⟨by kernel_rfl,?_⟩
          conv=>whnf
          refine ⟨hp33,?_⟩
          conv=>whnf
          intro fp46
          conv=>whnf
          refine ⟨by kernel_rfl,?_⟩
          conv=>whnf
          refine ⟨hp35,?_⟩
          conv=>whnf
          refine ⟨trivial,?_⟩
         rotate_right
         focus
          conv=>whnf
          refine ⟨by kernel_rfl,?_⟩
          conv=>whnf
          refine ⟨hp33,?_⟩
          conv=>whnf
          intro fp46
          conv=>whnf
          refine ⟨by kernel_rfl,?_⟩
          conv=>whnf
          refine ⟨hp35,?_⟩
          conv=>whnf
          refine ⟨trivial,?_⟩
        rotate_right
        focus
         conv=>whnf
         refine ⟨?_,?_⟩
         rotate_left
         focus
          conv=>whnf
          refine ⟨by kernel_rfl,?_⟩
          conv=>whnf
          refine ⟨hp33,?_⟩
          conv=>whnf
          intro fp46
          conv=>whnf
          refine ⟨by kernel_rfl,?_⟩
          conv=>whnf
          refine ⟨hp35,?_⟩
          conv=>whnf
          refine ⟨trivial,?_⟩
         rotate_right
         focus
          conv=>whnf
          refine ⟨by kernel_rfl,?_⟩
          conv=>whnf
          refine ⟨hp33,?_⟩
          conv=>whnf
          intro fp46
          conv=>whnf
          refine ⟨?_,?_⟩
          rotate_left
          focus
           conv=>whnf
           refine ⟨by kernel_rfl,?_⟩
           conv=>whnf
           refine ⟨hp35,?_⟩
           conv=>whnf
           refine ⟨trivial,?_⟩
          rotate_right
          focus
           conv=>whnf
           refine ⟨by kernel_rfl,?_⟩
           conv=>whnf
           refine ⟨hp35,?_⟩
           conv=>whnf
           refine ⟨trivial,?_⟩
       rotate_right
       focus
        conv=>whnf
        refine ⟨by kernel_rfl,?_⟩
        conv=>whnf
        refine ⟨hp33,?_⟩
        conv=>whnf
        intro fp46
        conv=>whnf
        refine ⟨?_,?_⟩
        rotate_left
        focus
         conv=>whnf
         refine ⟨by kernel_rfl,?_⟩
         conv=>whnf
         refine ⟨hp35,?_⟩
         conv=>whnf
         refine ⟨trivial,?_⟩
        rotate_right
        focus
         conv=>whnf
         refine ⟨?_,?_⟩
         rotate_left
         focus
          conv=>whnf
          refine ⟨by kernel_rfl,?_⟩
          conv=>whnf
          refine ⟨hp35,?_⟩
          conv=>whnf
          refine ⟨trivial,?_⟩
         rotate_right
         focus
          conv=>whnf
          refine ⟨by kernel_rfl,?_⟩
          conv=>whnf
          refine ⟨hp35,?_⟩
          conv=>whnf
          refine ⟨trivial,?_⟩
      all_goals
       conv=>whnf
       refine ⟨by kernel_rfl,?_⟩
       conv=>whnf
       refine ⟨by kernel_rfl,?_⟩
       conv=>whnf
       refine ⟨by kernel_rfl,?_⟩
       conv=>whnf
       refine ZbB h (fun l07Lumped0 hb36 h=>?_)
       conv=>whnf
       intro fp37
       conv=>whnf
       refine ⟨by kernel_rfl,?_⟩
       conv=>whnf
       refine Zrq h (fun hp38 h=>?_)
       conv=>whnf
       intro fp39
       conv=>whnf
       refine ZbB h (fun l08Attach0 hb40 h=>?_)
       conv=>whnf
       intro fp41
       conv=>whnf
       intro fp42
       conv=>whnf
       intro fp43
       conv=>whnf
       refine ⟨trivial,?_⟩
       conv=>whnf
       cases h
       exact hK
end Go.Proofs.YtoefbkmllkpkkaaGreatDoor
