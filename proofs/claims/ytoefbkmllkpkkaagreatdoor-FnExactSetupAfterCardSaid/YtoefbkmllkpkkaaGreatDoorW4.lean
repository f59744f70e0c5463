/-
  The functions keep their contracts, if what they call does. Printed by program.
-/
import Derived.Test.YtoefbkmllkpkkaaGreatDoorM
import Derived.KernelRfl
namespace Go.Proofs.YtoefbkmllkpkkaaGreatDoor
open Go Go.Sx
set_option maxRecDepth 100000
set_option maxHeartbeats 3200000
set_option linter.unusedVariables false
set_option linter.unusedSimpArgs false
structure Ws4:Prop where
 w191:Zc Tryz.prog 218 ZFc
 w194:Zc Tryz.prog 150 Zv9→Zc Tryz.prog 219 c194
 w190:Zc Tryz.prog 98 ZDS→Zc Tryz.prog 99 ZGS→Zc Tryz.prog 40 ZF8
 w178:Zc Tryz.prog 205 c119→Zc Tryz.prog 209 c173→Zc Tryz.prog 208 ZGL→Zc Tryz.prog 150 Zv9→Zc Tryz.prog 210 ZCy→Zc Tryz.prog 211 ZDF→Zc Tryz.prog 202 c160→Zc Tryz.prog 155 c127→Zc Tryz.prog 152 ZGY
 w188:Zc Tryz.prog 150 Zv9→Zc Tryz.prog 212 ZGB→Zc Tryz.prog 213 c182→Zc Tryz.prog 214 ZB6→Zc Tryz.prog 215 ZFs→Zc Tryz.prog 216 ZEd→Zc Tryz.prog 217 ZE0→Zc Tryz.prog 155 c127→Zc Tryz.prog 151 c171→Zc Tryz.prog 153 ZGu
 w155:Zc Tryz.prog 214 ZB6→Zc Tryz.prog 277 ZFv→Zc Tryz.prog 278 ZGD→Zc Tryz.prog 205 c119→Zc Tryz.prog 279 c154→Zc Tryz.prog 244 ZEg
 w250:Zc Tryz.prog 40 ZF8→Zc Tryz.prog 41 ZDn→Zc Tryz.prog 42 ZEc→Zc Tryz.prog 11 ZEE
 w219:Zc Tryz.prog 262 ZFN
 w231:Zc Tryz.prog 173 ZFt
 w181:Zc Tryz.prog 250 ZFY→Zc Tryz.prog 212 ZGB
 w203:Zc Tryz.prog 205 c119→Zc Tryz.prog 257 c201→Zc Tryz.prog 258 ZFe→Zc Tryz.prog 222 c203
 w229:Zc Tryz.prog 174 c229
 w177:Zc Tryz.prog 210 ZCy
 w159:Zc Tryz.prog 234 c159
 w199:Zc Tryz.prog 150 Zv9→Zc Tryz.prog 154 ZEh→Zc Tryz.prog 155 c127→Zc Tryz.prog 156 c196→Zc Tryz.prog 157 c198→Zc Tryz.prog 100 ZGl
 w213:Zc Tryz.prog 162 ZDW→Zc Tryz.prog 205 c119→Zc Tryz.prog 225 c210→Zc Tryz.prog 226 c212→Zc Tryz.prog 163 c213
 w205:Zc Tryz.prog 210 ZCy→Zc Tryz.prog 205 c119→Zc Tryz.prog 162 ZDW
 w216:Zc Tryz.prog 166 ZGz→Zc Tryz.prog 165 ZES
 w279:Zc Tryz.prog 47 ZFH→Zc Tryz.prog 48 ZGm→Zc Tryz.prog 49 ZEm→Zc Tryz.prog 13 ZGV
 w251:Zc Tryz.prog 106 ZGp
 w256:Zc Tryz.prog 114 ZBk
 w277:Zc Tryz.prog 114 ZBk→Zc Tryz.prog 50 ZDZ
 w303:Zc Tryz.prog 121 ZEz
 w306:Zc Tryz.prog 59 ZEA→Zc Tryz.prog 60 ZEN→Zc Tryz.prog 61 ZG1→Zc Tryz.prog 62 ZEn→Zc Tryz.prog 18 ZF4
 w290:Zc Tryz.prog 120 Zxw→Zc Tryz.prog 118 ZGc
 w300:Zc Tryz.prog 55 ZEX→Zc Tryz.prog 56 ZEP→Zc Tryz.prog 57 ZGC→Zc Tryz.prog 58 ZE4→Zc Tryz.prog 17 ZFf
 w11:Zc Tryz.prog 123 c10→Zc Tryz.prog 64 c11
 w9:Zc Tryz.prog 63 c8→Zc Tryz.prog 19 c9
 w13:Zc Tryz.prog 124 c13
 w48:Zc Tryz.prog 94 c48
 w56:Zc Tryz.prog 97 c55→Zc Tryz.prog 39 c56
 w40:Zc Tryz.prog 91 c40
 w32:Zc Tryz.prog 293 c31→Zc Tryz.prog 276 c32
 w44:Zc Tryz.prog 93 c30→Zc Tryz.prog 35 c44
 w234:Zc Tryz.prog 264 c234
 w218:Zc Tryz.prog 227 ZGA→Zc Tryz.prog 164 c218
 w163:Zc Tryz.prog 280 c162→Zc Tryz.prog 245 ZF7
 w147:Zc Tryz.prog 297 c146→Zc Tryz.prog 311 ZFq
 w86:Zc Tryz.prog 71 c75→Zc Tryz.prog 72 c76→Zc Tryz.prog 73 c77→Zc Tryz.prog 74 c85→Zc Tryz.prog 27 c86
 w80:Zc Tryz.prog 132 c80
 w90:Zc Tryz.prog 135 c87→Zc Tryz.prog 136 c88→Zc Tryz.prog 128 c59→Zc Tryz.prog 137 c89→Zc Tryz.prog 75 c90
 w91:Zc Tryz.prog 128 c59→Zc Tryz.prog 131 c58→Zc Tryz.prog 138 c91
 w68:Zc Tryz.prog 240 c67→Zc Tryz.prog 190 c68
 w82:Zc Tryz.prog 193 c81→Zc Tryz.prog 133 c82
 w118:Zc Tryz.prog 27 c86→Zc Tryz.prog 28 c98→Zc Tryz.prog 30 c99→Zc Tryz.prog 29 ZEl→Zc Tryz.prog 31 c117→Zc Tryz.prog 7 ZFV
 w63:Zc Tryz.prog 316 c62→Zc Tryz.prog 306 c63
 w64:Zc Tryz.prog 306 c63→Zc Tryz.prog 292 c64
 w76:Zc Tryz.prog 72 c76
 w93:Zc Tryz.prog 77 c72→Zc Tryz.prog 195 c93
 w94:Zc Tryz.prog 195 c93→Zc Tryz.prog 128 c59→Zc Tryz.prog 139 c94
 w99:Zc Tryz.prog 77 c72→Zc Tryz.prog 30 c99
 w100:Zc Tryz.prog 80 ZEq
set_option maxHeartbeats 100000000 in
theorem ws4:Ws4:=by
 refine ⟨(Zi Zq Zl mixed {} (fn:=Tryz.f218) Tryz.func218 (by kernel_rfl) (by kernel_rfl) ?_),
 (fun q0=>Zi Zq (Zd q0 Zl) mixed {loops:=[(0,[.reg 5 (.own (.ol 2 (.flat (.int .i64)))),.reg 11 (.dat (.int .i64))])]} (fn:=Tryz.f219) Tryz.func219 (by kernel_rfl) (by kernel_rfl) ?_),
 (fun q1 q0=>Zi Zq (Zd q1 (Zd q0 Zl)) mixed {} (fn:=Tryz.f40) Tryz.func40 (by kernel_rfl) (by kernel_rfl) ?_),
 (fun q7 q5 q6 q2 q0 q1 q3 q4=>Zi Zq (Zd q7 (Zd q5 (Zd q6 (Zd q2 (Zd q0 (Zd q1 (Zd q3 (Zd q4 Zl)))))))) mixed {draws:=[(1,[0,1,3,7,15,31,31,95,255,511,1023],.op 0 (.op 1 (.alt 2 (.op 3 (.op 4 (.op 5 (.op 6 (.alt 7 (.alt 8 (.op 9 (.op 10 (.done))) (.done)) (.done)))))) (.done)))),(3,[0,1,0,4,12,28,60,127,255],.op 0 (.op 1 (.op 2 (.op 3 (.alt 4 (.alt 5 (.op 6 (.alt 7 (.op 8 (.done)) (.done))) (.done)) (.done)))))),(7,[0,1,3,7,3,19,51,115,243,511,1023,2047],.op 0 (.op 1 (.op 2 (.op 3 (.op 4 (.op 5 (.op 6 (.alt 7 (.op 8 (.alt 9 (.op 10 (.op 11 (.done))) (.done))) (.done))))))))),(9,[0,1,3,7,3,19,63,127,255,511,1023,511,2559,511,8703,31231,63999,129535,260607,522751,1048575,2097151,4194303],.op 0 (.op 1 (.op 2 (.op 3 (.op 4 (.op 5 (.alt 6 (.op 7 (.op 8 (.op 9 (.op 10 (.op 11 (.op 12 (.op 13 (.op 14 (.op 15 (.op 16 (.op 17 (.alt 18 (.op 19 (.alt 20 (.op 21 (.op 22 (.done))) (.done))) (.done))))))))))))) (.done))))))))]} (fn:=Tryz.f152) Tryz.func152 (by kernel_rfl) (by kernel_rfl) ?_),
 (fun q2 q5 q6 q7 q3 q1 q0 q4 q8=>Zi Zq (Zd q2 (Zd q5 (Zd q6 (Zd q7 (Zd q3 (Zd q1 (Zd q0 (Zd q4 (Zd q8 Zl))))))))) mixed {draws:=[(6,[0,1,3,7,15,31,63,127,255,511,1023,255,2303,255,8447,30975,63743,129279,262143,524287,255,1048831,3145983,255,8388863,32506111,66060543,134217727,268435455,536870911],.op 0 (.op 1 (.op 2 (.op 3 (.op 4 (.op 5 (.op 6 (.op 7 (.op 8 (.op 9 (.op 10 (.op 11 (.op 12 (.op 13 (.op 14 (.op 15 (.op 16 (.op 17 (.op 18 (.op 19 (.op 20 (.op 21 (.op 22 (.op 23 (.op 24 (.op 25 (.op 26 (.alt 27 (.op 28 (.op 29 (.done))) (.done))))))))))))))))))))))))))))),(12,[0,0,2,7,15,31,63,127,255,255,767,2047,4095,8191,255,16639,65535,131071,262143],.op 0 (.op 1 (.op 2 (.op 3 (.op 4 (.op 5 (.op 6 (.op 7 (.op 8 (.op 9 (.op 10 (.op 11 (.op 12 (.op 13 (.op 14 (.op 15 (.op 16 (.op 17 (.op 18 (.done)))))))))))))))))))),(13,[0,1,0,4,0,16,60,124,252,508,1023,2047],.op 0 (.op 1 (.op 2 (.op 3 (.op 4 (.op 5 (.op 6 (.op 7 (.op 8 (.alt 9 (.alt 10 (.op 11 (.done)) (.done)) (.done)))))))))))]} (fn:=Tryz.f153) Tryz.func153 (by kernel_rfl) (by kernel_rfl) ?_),
 (fun q3 q2 q1 q4 q0=>Zi Zq (Zd q3 (Zd q2 (Zd q1 (Zd q4 (Zd q0 Zl))))) mixed {} (fn:=Tryz.f244) Tryz.func244 (by kernel_rfl) (by kernel_rfl) ?_),
 (fun q1 q2 q0=>Zi Yv (Zd q1 (Zd q2 (Zd q0 Zl))) mixed {} (fn:=Tryz.f11) Tryz.func11 (by kernel_rfl) (by kernel_rfl) ?_),
 (Zi Zq Zl mixed {} (fn:=Tryz.f262) Tryz.func262 (by kernel_rfl) (by kernel_rfl) ?_),
 (Zi Yv Zl mixed {loops:=[(0,[.reg 9 (.dat (.int .i64)),.ent 0 (nat_lit 2) (.flat (Ty.int IntKind.i64))])]} (fn:=Tryz.f173) Tryz.func173 (by kernel_rfl) (by kernel_rfl) ?_),
 (fun q0=>Zi Zq (Zd q0 Zl) mixed {} (fn:=Tryz.f212) Tryz.func212 (by kernel_rfl) (by kernel_rfl) ?_),
 (fun q1 q0 q2=>Zi Zq (Zd q1 (Zd q0 (Zd q2 Zl))) mixed {} (fn:=Tryz.f222) Tryz.func222 (by kernel_rfl) (by kernel_rfl) ?_),
 (Zi Zq Zl mixed {} (fn:=Tryz.f174) Tryz.func174 (by kernel_rfl) (by kernel_rfl) ?_),
 (Zi Zq Zl mixed {} (fn:=Tryz.f210) Tryz.func210 (by kernel_rfl) (by kernel_rfl) ?_),
 (Zi Zq Zl mixed {} (fn:=Tryz.f234) Tryz.func234 (by kernel_rfl) (by kernel_rfl) ?_),
 (fun q3 q1 q4 q2 q0=>Zi Yv (Zd q3 (Zd q1 (Zd q4 (Zd q2 (Zd q0 Zl))))) mixed {loops:=[(0,[.reg 4 (.dat (.int .i64)),.reg 25 (.dat (.int .i64)),.cello 1020 6 (.ol 239 (.flat (Zqf)))]),(2,[.reg 60 (.dat (.int .i64)),.ent 4 (nat_lit 2) (.flat Zxe.ety),.ent 5 (nat_lit 33) (Dp.ol (2:Go.TypeId) (Dp.flat (Ty.int IntKind.i64)))]),(4,[.reg 88 (.dat (.int .i64)),.cello 1020 7 (.ol 2 (.flat (.int .i64))),.cello 1020 8 (.ol 33 (.ol 2 (.flat (.int .i64)))),.cello 1020 6 (.ol (nat_lit 239) (.flat Zqf)),.ent 5 (nat_lit 33) (Dp.ol (2:Go.TypeId) (Dp.flat (Ty.int IntKind.i64)))]),(6,[.reg 122 (.dat (.int .i64)),.cello 1020 6 (.ol (nat_lit 239) (.flat Zqf))]),(8,[.reg 127 (.dat (.int .i64)),.cello 1020 6 (.ol (nat_lit 239) (.flat Zqf))])],draws:=[(1,[0,0,2,6,15,31,63],.op 0 (.op 1 (.op 2 (.alt 3 (.op 4 (.alt 5 (.op 6 (.done)) (.done))) (.done))))),(6,[0,0,2,6,14,0,0,0,224,510,1023,2047,4095],.op 0 (.op 1 (.op 2 (.op 3 (.op 4 (.op 5 (.op 6 (.op 7 (.alt 8 (.alt 9 (.op 10 (.op 11 (.alt 12 (.done) (.done)))) (.done)) (.done)))))))))),(16,[0,0,2,0,0,16,56,120,0,256,1016,2047,4095],.op 0 (.op 1 (.op 3 (.op 4 (.op 5 (.op 6 (.op 7 (.op 8 (.ld 2 (.alt 9 (.alt 10 (.op 11 (.alt 12 (.done) (.done))) (.done)) (.done))))))))))),(21,[0,0,2,6,14,0,0,96,224,480,992,2046,4095,8191,16383],.op 0 (.op 1 (.op 2 (.op 3 (.op 4 (.op 5 (.op 6 (.alt 7 (.op 8 (.op 9 (.alt 10 (.alt 11 (.op 12 (.op 13 (.alt 14 (.done) (.done)))) (.done)) (.done)))) (.done))))))))),(22,[0,0,2,6,14,0,0,96,224,510,1023,2047,4095],.op 0 (.op 1 (.op 2 (.op 3 (.op 4 (.op 5 (.op 6 (.alt 7 (.alt 8 (.alt 9 (.op 10 (.op 11 (.alt 12 (.done) (.done)))) (.done)) (.done)) (.done))))))))),(29,[0,0,2,6,14,0,0,96,224,480,0,2016,0,4096,0,28672,0,131040,262112,524286,1048575,2097151,4194303],.op 0 (.op 1 (.op 2 (.op 3 (.op 4 (.op 5 (.op 6 (.op 7 (.op 8 (.op 9 (.op 10 (.op 11 (.op 12 (.op 13 (.op 14 (.op 15 (.op 16 (.op 17 (.alt 18 (.alt 19 (.op 20 (.op 21 (.alt 22 (.done) (.done)))) (.done)) (.done))))))))))))))))))))]} (fn:=Tryz.f100) Tryz.func100 (by kernel_rfl) (by kernel_rfl) ?_),
 (fun q0 q2 q3 q1=>Zi Zq (Zd q0 (Zd q2 (Zd q3 (Zd q1 Zl)))) mixed {loops:=[(0,[.reg 13 (.dat (.int .i64))])],draws:=[(4,[0,0,2,7,15,31,63,127,255,511,63,1087,4095,8191,16383,32767,65535,131071,262143,524287,1048575,2097151,262143,4456447,16777215,33554431,67108863,262143,268435455,536870911,1073741823,2147483647,4294967295,8589934591,17179869183,17179869183,51539607551,137438953471,274877906943,549755813887,17179869183,1116691496959,4398046511103,8796093022207,17592186044415],.op 0 (.op 1 (.op 2 (.alt 3 (.op 4 (.op 5 (.op 6 (.op 7 (.op 8 (.op 9 (.op 10 (.op 11 (.op 12 (.op 13 (.op 14 (.op 15 (.op 16 (.op 17 (.op 18 (.op 19 (.op 20 (.op 21 (.op 22 (.op 23 (.op 24 (.op 25 (.op 26 (.op 27 (.op 28 (.op 29 (.op 30 (.op 31 (.op 32 (.op 33 (.op 34 (.op 35 (.op 36 (.op 37 (.op 38 (.op 39 (.op 40 (.op 41 (.op 42 (.op 43 (.op 44 (.done)))))))))))))))))))))))))))))))))))))))))) (.done)))))]} (fn:=Tryz.f163) Tryz.func163 (by kernel_rfl) (by kernel_rfl) ?_),
 (fun q0 q1=>Zi Zq (Zd q0 (Zd q1 Zl)) mixed {} (fn:=Tryz.f162) Tryz.func162 (by kernel_rfl) (by kernel_rfl) ?_),
 (fun q0=>Zi Zq (Zd q0 Zl) mixed {} (fn:=Tryz.f165) Tryz.func165 (by kernel_rfl) (by kernel_rfl) ?_),
 (fun q0 q1 q2=>Zi Zq (Zd q0 (Zd q1 (Zd q2 Zl))) mixed {} (fn:=Tryz.f13) Tryz.func13 (by kernel_rfl) (by kernel_rfl) ?_),
 (Zi Zq Zl mixed {} (fn:=Tryz.f106) Tryz.func106 (by kernel_rfl) (by kernel_rfl) ?_),
 (Zi Zq Zl mixed {loops:=[(0,[.reg 5 (.dat (.int .i64))])],draws:=[(6,[0,0,3,7,0,0,48,112,255],.op 0 (.op 1 (.op 2 (.op 3 (.op 4 (.op 5 (.op 6 (.op 7 (.op 8 (.done))))))))))]} (fn:=Tryz.f114) Tryz.func114 (by kernel_rfl) (by kernel_rfl) ?_),
 (fun q0=>Zi Zq (Zd q0 Zl) mixed {} (fn:=Tryz.f50) Tryz.func50 (by kernel_rfl) (by kernel_rfl) ?_),
 (Zi Zq Zl mixed {loops:=[(0,[.reg 1 (.dat (.int .i64)),.reg 5 (.dat (.int .i64))])]} (fn:=Tryz.f121) Tryz.func121 (by kernel_rfl) (by kernel_rfl) ?_),
 (fun q3 q1 q0 q2=>Zi Zq (Zd q3 (Zd q1 (Zd q0 (Zd q2 Zl)))) mixed {} (fn:=Tryz.f18) Tryz.func18 (by kernel_rfl) (by kernel_rfl) ?_),
 (fun q0=>Zi Yv (Zd q0 Zl) mixed {loops:=[(0,[.reg 1 (.dat (.int .i64)),.reg 5 (.dat (.int .i64)),.ent 0 (nat_lit 217) (.flat Jf)])]} (fn:=Tryz.f118) Tryz.func118 (by kernel_rfl) (by kernel_rfl) ?_),
 (fun q3 q1 q0 q2=>Zi Yv (Zd q3 (Zd q1 (Zd q0 (Zd q2 Zl)))) mixed {} (fn:=Tryz.f17) Tryz.func17 (by kernel_rfl) (by kernel_rfl) ?_),
 (fun q0=>Zi Zq (Zd q0 Zl) mixed {loops:=[(0,[.reg 1 (.dat (.int .i64)),.reg 5 (.dat (.int .i64))])]} (fn:=Tryz.f64) Tryz.func64 (by kernel_rfl) (by kernel_rfl) ?_),
 (fun q0=>Zi Zq (Zd q0 Zl) mixed {} (fn:=Tryz.f19) Tryz.func19 (by kernel_rfl) (by kernel_rfl) ?_),
 (Zi Zq Zl mixed {} (fn:=Tryz.f124) Tryz.func124 (by kernel_rfl) (by kernel_rfl) ?_),
 (Zi Zq Zl mixed {} (fn:=Tryz.f94) Tryz.func94 (by kernel_rfl) (by kernel_rfl) ?_),
 (fun q0=>Zi Zq (Zd q0 Zl) mixed {loops:=[(0,[.reg 4 (.dat (.int .i64)),.ent 0 (nat_lit 169) (.flat ZCM.ety)])]} (fn:=Tryz.f39) Tryz.func39 (by kernel_rfl) (by kernel_rfl) ?_),
 (Zi Zq Zl mixed {loops:=[(0,[.reg 4 (.dat (.int .i64)),.ent 0 (nat_lit 9) (.flat ZCF.ety)])]} (fn:=Tryz.f91) Tryz.func91 (by kernel_rfl) (by kernel_rfl) ?_),
 (fun q0=>Zi Yv (Zd q0 Zl) mixed {loops:=[(0,[.reg 4 (.dat (.int .i64)),.ent 0 (nat_lit 337) ZfI])]} (fn:=Tryz.f276) Tryz.func276 (by kernel_rfl) (by kernel_rfl) ?_),
 (fun q0=>Zi Zq (Zd q0 Zl) mixed {} (fn:=Tryz.f35) Tryz.func35 (by kernel_rfl) (by kernel_rfl) ?_),
 (Zi Zq Zl mixed {} (fn:=Tryz.f264) Tryz.func264 (by kernel_rfl) (by kernel_rfl) ?_),
 (fun q0=>Zi Zq (Zd q0 Zl) mixed {} (fn:=Tryz.f164) Tryz.func164 (by kernel_rfl) (by kernel_rfl) ?_),
 (fun q0=>Zi Zq (Zd q0 Zl) mixed {} (fn:=Tryz.f245) Tryz.func245 (by kernel_rfl) (by kernel_rfl) ?_),
 (fun q0=>Zi Zq (Zd q0 Zl) mixed {loops:=[(0,[.reg 8 (.dat (.int .i64))])]} (fn:=Tryz.f311) Tryz.func311 (by kernel_rfl) (by kernel_rfl) ?_),
 (fun q3 q0 q1 q2=>Zi Zq (Zd q3 (Zd q0 (Zd q1 (Zd q2 Zl)))) mixed {} (fn:=Tryz.f27) Tryz.func27 (by kernel_rfl) (by kernel_rfl) ?_),
 (Zi Zq Zl mixed {loops:=[(0,[.reg 5 (.dat (.int .i64))])]} (fn:=Tryz.f132) Tryz.func132 (by kernel_rfl) (by kernel_rfl) ?_),
 (fun q1 q0 q2 q3=>Zi Zq (Zd q1 (Zd q0 (Zd q2 (Zd q3 Zl)))) mixed {loops:=[(0,[.reg 3 (.dat (.int .i64))]),(2,[.reg 5 (.dat (.int .i64))])],draws:=[(10,[0,0,3,7,15,0,32,127],.op 0 (.op 1 (.op 2 (.op 3 (.op 4 (.op 5 (.op 6 (.op 7 (.done)))))))))]} (fn:=Tryz.f75) Tryz.func75 (by kernel_rfl) (by kernel_rfl) ?_),
 (fun q1 q0=>Zi Zq (Zd q1 (Zd q0 Zl)) mixed {loops:=[(0,[.reg 4 (.dat (.int .i64))])]} (fn:=Tryz.f138) Tryz.func138 (by kernel_rfl) (by kernel_rfl) ?_),
 (fun q0=>Zi Zq (Zd q0 Zl) mixed {loops:=[(0,[.reg 3 (.dat (.int .i64))]),(2,[.reg 4 (.dat (.int .i64))])],draws:=[(9,[0,1,0,7,15,31,0,64,0,448,960,1984,4095],.op 0 (.op 1 (.op 2 (.op 3 (.op 4 (.op 5 (.op 6 (.op 7 (.op 8 (.op 9 (.op 10 (.op 11 (.op 12 (.done))))))))))))))]} (fn:=Tryz.f190) Tryz.func190 (by kernel_rfl) (by kernel_rfl) ?_),
 (fun q0=>Zi Zq (Zd q0 Zl) mixed {} (fn:=Tryz.f133) Tryz.func133 (by kernel_rfl) (by kernel_rfl) ?_),
 (fun q1 q4 q0 q2 q3=>Zi Yv (Zd q1 (Zd q4 (Zd q0 (Zd q2 (Zd q3 Zl))))) mixed {draws:=[(6,[0,0,3,0,15,31,63,63,0,383,1023],.op 0 (.op 1 (.op 3 (.alt 2 (.alt 4 (.op 5 (.op 6 (.op 7 (.alt 8 (.alt 9 (.op 10 (.done)) (.done)) (.done))))) (.alt 8 (.alt 4 (.op 5 (.op 6 (.op 7 (.alt 9 (.op 10 (.done)) (.done))))) (.done)) (.done))) (.alt 8 (.alt 2 (.alt 4 (.op 5 (.op 6 (.op 7 (.alt 9 (.op 10 (.done)) (.done))))) (.done)) (.done)) (.done)))))),(7,[0,1,3,7,7,31,7,127,255,511],.op 0 (.op 1 (.op 2 (.op 3 (.op 4 (.op 6 (.alt 5 (.alt 7 (.op 8 (.op 9 (.done))) (.done)) (.done))))))))]} (fn:=Tryz.f7) Tryz.func7 (by kernel_rfl) (by kernel_rfl) ?_),
 (fun q0=>Zi Zq (Zd q0 Zl) mixed {loops:=[(0,[.reg 5 (.dat (.int .i64)),.cell 1004 0 (.int .i64),.cell 1004 1 (.int .i64)])],draws:=[(3,[0,1,3,7,0,16,48,112,255,0,1023],.op 0 (.op 1 (.op 2 (.op 3 (.op 4 (.op 5 (.op 6 (.op 7 (.op 8 (.alt 9 (.alt 10 (.done) (.done)) (.done))))))))))),(7,[0,1,0,4,0,28,60,127,255,511],.op 0 (.op 1 (.op 2 (.op 3 (.op 4 (.op 5 (.op 6 (.op 7 (.op 8 (.alt 9 (.done) (.done))))))))))),(8,[0,1,0,4,0,28,60,127,255,511],.op 0 (.op 1 (.op 2 (.op 3 (.op 4 (.op 5 (.op 6 (.op 7 (.op 8 (.alt 9 (.done) (.done)))))))))))]} (fn:=Tryz.f306) Tryz.func306 (by kernel_rfl) (by kernel_rfl) ?_),
 (fun q0=>Zi Zq (Zd q0 Zl) mixed {loops:=[(0,[.reg 5 (.dat (.int .i64))])]} (fn:=Tryz.f292) Tryz.func292 (by kernel_rfl) (by kernel_rfl) ?_),
 (Zi Zq Zl mixed {} (fn:=Tryz.f72) Tryz.func72 (by kernel_rfl) (by kernel_rfl) ?_),
 (fun q0=>Zi Zq (Zd q0 Zl) mixed {} (fn:=Tryz.f195) Tryz.func195 (by kernel_rfl) (by kernel_rfl) ?_),
 (fun q0 q1=>Zi Zq (Zd q0 (Zd q1 Zl)) mixed {loops:=[(0,[.reg 7 (.dat (.int .i64))])],draws:=[(4,[0,0,3,7,0,16,48,127,255,511,1023,2047,4095,8191,16383,32767,65535,65535,196607,524287,1048575,65535,65535,6356991,14745599,33554431,67108863,134217727],.op 0 (.op 1 (.op 2 (.op 3 (.op 4 (.alt 5 (.op 6 (.alt 7 (.op 8 (.op 9 (.op 10 (.op 11 (.op 12 (.op 13 (.op 14 (.op 15 (.op 16 (.op 17 (.op 18 (.op 19 (.op 20 (.op 21 (.op 22 (.op 23 (.op 24 (.op 25 (.op 26 (.op 27 (.done))))))))))))))))))))) (.done))) (.done)))))))]} (fn:=Tryz.f139) Tryz.func139 (by kernel_rfl) (by kernel_rfl) ?_),
 (fun q0=>Zi Zq (Zd q0 Zl) mixed {loops:=[(0,[.reg 5 (.own (.ol 2 (.flat (.int .i64)))),.reg 8 (.dat (.int .i64))])]} (fn:=Tryz.f30) Tryz.func30 (by kernel_rfl) (by kernel_rfl) ?_),
 (Zi Zq Zl mixed {loops:=[(0,[.reg 6 (.own (.ol 2 (.flat (.int .i64)))),.reg 7 (.dat (.int .i64))])]} (fn:=Tryz.f80) Tryz.func80 (by kernel_rfl) (by kernel_rfl) ?_)⟩
 all_goals
  intro a
  repeat rcases a with ⟨_,a⟩
  rintro K ⟨r,h,hK⟩
  repeat'
    conv=>whnf
    first
    | with_reducible refine ZwB ?_
    | with_reducible refine ZfW (by assumption) (by assumption) (by assumption) ?_
    | with_reducible refine Vd (by assumption) ?_
    | with_reducible refine Zf1 (by assumption) ?_
    | (with_reducible refine shD ?_);first | refine Zo7 h (fun h=>?_) (fun h=>?_) | refine ZuW h (fun h=>?_) (fun h=>?_)
    | (with_reducible refine Zxc ?_);first | refine ZxD ?_ | refine Zng ?_
    | (with_reducible refine ZCb ?_);first | refine ZtV h (fun h=>?_) (fun h=>?_) | refine Zxf h (fun h=>?_) (fun h=>?_)
    | (with_reducible refine ZwQ ?_);(refine ⟨fun hd=>?_,?_⟩)<;>try subst hd
    | (with_reducible refine ZCj ?_);first | with_reducible refine ZbB h (fun x hb h=>?_) | refine Zf1 (by assumption) ?_ | with_reducible refine pG h (fun hp h=>?_) | with_reducible refine pA h (fun x ha hb hx h=>?_) | with_reducible refine pB h (fun x hb h=>?_) | refine ZbB h (fun x hb h=>?_)
    | (with_reducible refine ZB5 ?_);first | with_reducible refine vAt h (fun x ha hb hx h=>?_) | refine ZfW (by assumption) (by assumption) (by assumption) ?_ | with_reducible refine pG h (fun hp h=>?_) | with_reducible refine pA h (fun x ha hb hx h=>?_) | with_reducible refine pB h (fun x hb h=>?_) | refine vAt h (fun x ha hb hx h=>?_)
    | (with_reducible refine Zxa ?_);first | with_reducible refine ZpJ h (fun x hb h=>?_) | refine Vd (by assumption) ?_ | with_reducible refine pG h (fun hp h=>?_) | with_reducible refine pA h (fun x ha hb hx h=>?_) | with_reducible refine pB h (fun x hb h=>?_) | refine ZpJ h (fun x hb h=>?_)
    | with_reducible refine ZB7 ?_
    | (with_reducible refine Zsj ?_);refine ZrZ h hK ?_;clear h hK;intro I μ v r h hK;(repeat rcases v with ⟨_,v⟩);(try dsimp only at h)
    | with_reducible refine ⟨by assumption,?_⟩
    | with_reducible refine orL ?_
    | with_reducible refine .inr ?_
    | (with_reducible refine Zxb ?_);first | refine ⟨?_,True.intro⟩ | refine ⟨?_,?_⟩
    | refine ⟨by kernel_rfl,?_⟩
    | refine ⟨by decide,?_⟩
    | with_reducible refine Zrq h (fun hp h=>?_)
    | intro fp
    | exact trivial
    | with_reducible exact Zw1 h
    | (refine pS h (fun e=>?_));subst e;(repeat (first | exact hK | exact ⟨⟨rfl,rfl⟩,hK.1 _ rfl⟩ | (refine pR hK (fun e hK=>?_));subst e));done
    | refine Zrq h (fun hp h=>?_)
    | refine ⟨by assumption,?_⟩
    | with_reducible refine pG h (fun hp h=>?_) | with_reducible refine pA h (fun x ha hb hx h=>?_) | with_reducible refine pB h (fun x hb h=>?_)
    | refine pG h (fun hp h=>?_)
    | fail
end Go.Proofs.YtoefbkmllkpkkaaGreatDoor
