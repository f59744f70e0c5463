/-
  The functions keep their contracts, if what they call does. Printed by program.
-/
import Derived.Test.YtoefbkmllkpkkaaGreatDoorM
import Derived.KernelRfl
namespace Go.Proofs.YtoefbkmllkpkkaaGreatDoor
open Go Go.Sx
set_option maxRecDepth 100000
set_option maxHeartbeats 3200000
set_option linter.unusedVariables false
set_option linter.unusedSimpArgs false
structure Ws1:Prop where
 w198:Zc Tryz.prog 221 ZFR→Zc Tryz.prog 157 c198
 w196:Zc Tryz.prog 171 c193→Zc Tryz.prog 150 Zv9→Zc Tryz.prog 219 c194→Zc Tryz.prog 220 ZFm→Zc Tryz.prog 156 c196
 w244:Zc Tryz.prog 179 ZCo
 w247:Zc Tryz.prog 178 ZCC→Zc Tryz.prog 150 Zv9→Zc Tryz.prog 234 c159→Zc Tryz.prog 219 c194→Zc Tryz.prog 179 ZCo→Zc Tryz.prog 180 ZC6→Zc Tryz.prog 177 ZGi
 w146:Zc Tryz.prog 297 c146
 w154:Zc Tryz.prog 298 c143→Zc Tryz.prog 207 c131→Zc Tryz.prog 299 ZFQ→Zc Tryz.prog 279 c154
 w249:Zc Tryz.prog 102 c228→Zc Tryz.prog 104 ZE8→Zc Tryz.prog 103 c232→Zc Tryz.prog 105 ZGt→Zc Tryz.prog 41 ZDn→Zc Tryz.prog 42 ZEc
 w165:Zc Tryz.prog 204 ZET
 w224:Zc Tryz.prog 98 ZDS→Zc Tryz.prog 100 ZGl→Zc Tryz.prog 101 ZGr→Zc Tryz.prog 41 ZDn
 w241:Zc Tryz.prog 171 c193→Zc Tryz.prog 181 ZDw
 w170:Zc Tryz.prog 205 c119→Zc Tryz.prog 206 ZGq
 w212:Zc Tryz.prog 225 c210→Zc Tryz.prog 261 ZF5→Zc Tryz.prog 226 c212
 w131:Zc Tryz.prog 245 c130→Zc Tryz.prog 207 c131
 w128:Zc Tryz.prog 205 c119→Zc Tryz.prog 248 ZE6
 w182:Zc Tryz.prog 213 c182
 w120:Zc Tryz.prog 205 c119→Zc Tryz.prog 252 Zls→Zc Tryz.prog 253 ZgR→Zc Tryz.prog 214 ZB6
 w200:Zc Tryz.prog 158 ZF3
 w215:Zc Tryz.prog 210 ZCy→Zc Tryz.prog 207 c131→Zc Tryz.prog 228 ZEI→Zc Tryz.prog 229 ZDj→Zc Tryz.prog 166 ZGz
 w223:Zc Tryz.prog 158 ZF3→Zc Tryz.prog 159 ZEa→Zc Tryz.prog 160 c208→Zc Tryz.prog 163 c213→Zc Tryz.prog 164 c218→Zc Tryz.prog 167 c222→Zc Tryz.prog 101 ZGr
 w119:Zc Tryz.prog 205 c119
 w269:Zc Tryz.prog 183 ZGH→Zc Tryz.prog 110 ZFI
 w252:Zc Tryz.prog 106 ZGp→Zc Tryz.prog 43 ZGT
 w272:Zc Tryz.prog 184 ZFh→Zc Tryz.prog 111 ZGg
 w296:Zc Tryz.prog 120 Zxw→Zc Tryz.prog 55 ZEX
 w298:Zc Tryz.prog 119 ZA9→Zc Tryz.prog 57 ZGC
 w282:Zc Tryz.prog 120 Zxw→Zc Tryz.prog 186 ZEG
 w18:Zc Tryz.prog 19 c9→Zc Tryz.prog 20 c15→Zc Tryz.prog 21 c17→Zc Tryz.prog 4 c18
 w19:Zc Tryz.prog 22 c16→Zc Tryz.prog 5 c19
 w10:Zc Tryz.prog 67 c2→Zc Tryz.prog 123 c10
 w1:Zc Tryz.prog 238 c0→Zc Tryz.prog 188 c1
 w27:Zc Tryz.prog 23 c21→Zc Tryz.prog 24 c22→Zc Tryz.prog 25 c24→Zc Tryz.prog 26 c26→Zc Tryz.prog 6 c27
 w4:Zc Tryz.prog 291 c3→Zc Tryz.prog 271 c4
 w47:Zc Tryz.prog 35 c44→Zc Tryz.prog 9 c47
 w54:Zc Tryz.prog 96 c53→Zc Tryz.prog 38 c54
 w51:Zc Tryz.prog 148 c50→Zc Tryz.prog 95 c51
 w50:Zc Tryz.prog 148 c50
 w31:Zc Tryz.prog 93 c30→Zc Tryz.prog 293 c31
 w239:Zc Tryz.prog 268 ZEb
 w152:Zc Tryz.prog 311 ZFa→Zc Tryz.prog 296 c152
 w138:Zc Tryz.prog 327 ZFW→Zc Tryz.prog 317 c138
 w217:Zc Tryz.prog 165 ZES→Zc Tryz.prog 227 ZGA
 w129:Zc Tryz.prog 248 ZE6→Zc Tryz.prog 280 ZGk
 w95:Zc Tryz.prog 71 c75→Zc Tryz.prog 139 c94→Zc Tryz.prog 128 c59→Zc Tryz.prog 78 c95
 w74:Zc Tryz.prog 128 c59→Zc Tryz.prog 126 c74
 w66:Zc Tryz.prog 274 c66
 w107:Zc Tryz.prog 196 ZGG→Zc Tryz.prog 141 c107
 w81:Zc Tryz.prog 193 c81
 w109:Zc Tryz.prog 143 ZBh→Zc Tryz.prog 88 c109
 w88:Zc Tryz.prog 128 c59→Zc Tryz.prog 136 c88
 w102:Zc Tryz.prog 80 ZEq→Zc Tryz.prog 81 ZGj→Zc Tryz.prog 29 ZEl
set_option maxHeartbeats 100000000 in
theorem ws1:Ws1:=by
 refine ⟨(fun q0=>Zi Zq (Zd q0 Zl) mixed {loops:=[(0,[.reg 6 (.own (.ol 2 (.flat (.int .i64)))),.reg 19 (.dat (.int .i64))])]} (fn:=Tryz.f157) Tryz.func157 (by kernel_rfl) (by kernel_rfl) ?_),
 (fun q0 q1 q2 q3=>Zi Zq (Zd q0 (Zd q1 (Zd q2 (Zd q3 Zl)))) mixed {loops:=[(0,[.reg 27 (.dat (.int .i64)),.ent 2 (nat_lit 2) (.flat (Ty.int IntKind.i64))]),(2,[.reg 10 (.dat (.int .i64)),.ent 2 (nat_lit 2) (.flat (Ty.int IntKind.i64))])],draws:=[(7,[0,0,2,0,14,30,63,127,0,256,0,1024,0,0,12288,28672,65280,131071,262143,524287],.op 0 (.op 1 (.op 2 (.op 3 (.op 4 (.op 5 (.op 6 (.op 7 (.op 8 (.op 9 (.op 10 (.op 11 (.op 12 (.op 13 (.op 14 (.op 15 (.alt 16 (.op 17 (.op 18 (.alt 19 (.done) (.done)))) (.done)))))))))))))))))),(12,[0,0,2,0,14,30,63,127,0,0,768,1792,4095,8191,16383],.op 0 (.op 1 (.op 2 (.op 3 (.op 4 (.op 5 (.op 6 (.op 7 (.op 8 (.op 9 (.op 10 (.op 11 (.op 12 (.op 13 (.alt 14 (.done) (.done))))))))))))))))]} (fn:=Tryz.f156) Tryz.func156 (by kernel_rfl) (by kernel_rfl) ?_),
 (Zi Yv Zl mixed {draws:=[(2,[0,1,3,7,15,0,32,0,255,511,1023],.op 0 (.op 1 (.op 2 (.op 3 (.op 4 (.op 5 (.op 6 (.op 7 (.op 8 (.op 9 (.alt 10 (.done) (.done)))))))))))),(3,[0,1,3,7,15,0,32,127,255,511,0,1024,0,8191,16383],.op 0 (.op 1 (.op 2 (.op 3 (.op 4 (.op 5 (.op 6 (.op 7 (.op 8 (.op 9 (.op 10 (.op 11 (.op 12 (.op 13 (.alt 14 (.done) (.done))))))))))))))))]} (fn:=Tryz.f179) Tryz.func179 (by kernel_rfl) (by kernel_rfl) ?_),
 (fun q0 q1 q2 q4 q5 q3=>Zi ZxL (Zd q0 (Zd q1 (Zd q2 (Zd q4 (Zd q5 (Zd q3 Zl)))))) mixed {draws:=[(4,[0,0,2,6,14,0,32,96,224,480,992,2016,4094,8190,16382,32767,65535,0,262143],.op 0 (.op 1 (.op 2 (.op 3 (.op 4 (.op 5 (.op 6 (.op 7 (.op 8 (.op 9 (.alt 10 (.op 11 (.alt 12 (.op 13 (.op 14 (.op 15 (.op 16 (.alt 17 (.alt 18 (.done) (.done)) (.done)))))) (.alt 17 (.alt 12 (.op 13 (.op 14 (.op 15 (.op 16 (.alt 18 (.done) (.done)))))) (.done)) (.done)))) (.alt 17 (.alt 10 (.op 11 (.alt 12 (.op 13 (.op 14 (.op 15 (.op 16 (.alt 18 (.done) (.done)))))) (.done))) (.done)) (.done))))))))))))),(6,[0,0,0,0,8,28,63],.op 0 (.op 2 (.op 3 (.op 4 (.alt 1 (.alt 5 (.alt 6 (.done) (.done)) (.done)) (.alt 5 (.alt 1 (.alt 6 (.done) (.done)) (.done)) (.done))))))),(7,[0,0,0,4,12,28,60,0,252,508,1020,2044,4092,8191],.op 0 (.op 1 (.op 2 (.op 3 (.op 4 (.op 5 (.op 6 (.op 7 (.op 8 (.op 9 (.op 10 (.op 11 (.op 12 (.alt 13 (.done) (.done))))))))))))))),(9,[0,0,2,6,14,30,0,64,192,448,960,1984,4032,8190,16383,32767,65535,131071],.op 0 (.op 1 (.op 2 (.op 3 (.op 4 (.op 5 (.op 6 (.op 7 (.op 8 (.op 9 (.op 10 (.op 11 (.op 12 (.alt 13 (.op 14 (.op 15 (.op 16 (.alt 17 (.done) (.done))))) (.done))))))))))))))),(10,[0,0,2,6,14,0,32,96,224,480,992,2046,4095,8191,16383],.op 0 (.op 1 (.op 2 (.op 3 (.op 4 (.op 5 (.op 6 (.op 7 (.op 8 (.op 9 (.op 10 (.alt 11 (.op 12 (.op 13 (.alt 14 (.done) (.done)))) (.done)))))))))))))]} (fn:=Tryz.f177) Tryz.func177 (by kernel_rfl) (by kernel_rfl) ?_),
 (Zi Zq Zl mixed {} (fn:=Tryz.f297) Tryz.func297 (by kernel_rfl) (by kernel_rfl) ?_),
 (fun q0 q1 q2=>Zi Zq (Zd q0 (Zd q1 (Zd q2 Zl))) mixed {loops:=[(0,[.reg 3 (.dat (.int .i64)),.reg 9 (.dat (.int .i64))])],draws:=[(10,[0,1,3,7,15,31,7,71,199,511,1023,2047,4095,8191,16383,32767,65535],.op 0 (.op 1 (.op 2 (.op 3 (.op 4 (.op 5 (.op 6 (.alt 7 (.op 8 (.op 9 (.op 10 (.op 11 (.op 12 (.op 13 (.alt 14 (.op 15 (.op 16 (.done))) (.done)))))))) (.done))))))))),(12,[0,1,3,7,15,31,63,127,255,511,1023,2047,4095,8191,16383,32767,16383,131071,262143,524287,1048575],.op 0 (.op 1 (.op 2 (.op 3 (.op 4 (.op 5 (.op 6 (.op 7 (.op 8 (.op 9 (.alt 10 (.op 11 (.op 12 (.op 13 (.op 14 (.op 16 (.alt 15 (.alt 17 (.op 18 (.op 19 (.op 20 (.done)))) (.done)) (.done))))))) (.done))))))))))))]} (fn:=Tryz.f279) Tryz.func279 (by kernel_rfl) (by kernel_rfl) ?_),
 (fun q1 q0 q2 q3 q4=>Zi Yv (Zd q1 (Zd q0 (Zd q2 (Zd q3 (Zd q4 Zl))))) mixed {draws:=[(2,[0,0,3,7,15,31,63,63,255,63,1023,2047,4095],.op 0 (.op 1 (.alt 2 (.alt 3 (.op 4 (.op 5 (.op 6 (.op 7 (.op 9 (.alt 8 (.alt 10 (.op 11 (.op 12 (.done))) (.done)) (.done))))))) (.done)) (.done))))]} (fn:=Tryz.f42) Tryz.func42 (by kernel_rfl) (by kernel_rfl) ?_),
 (Zi Zq Zl mixed {} (fn:=Tryz.f204) Tryz.func204 (by kernel_rfl) (by kernel_rfl) ?_),
 (fun q1 q2 q0=>Zi Zq (Zd q1 (Zd q2 (Zd q0 Zl))) mixed {draws:=[(1,[0,1,3,7,15,7,63,127,255],.op 0 (.alt 1 (.op 2 (.op 3 (.op 5 (.alt 4 (.alt 6 (.op 7 (.op 8 (.done))) (.done)) (.done))))) (.done)))]} (fn:=Tryz.f41) Tryz.func41 (by kernel_rfl) (by kernel_rfl) ?_),
 (fun q0=>Zi Zq (Zd q0 Zl) mixed {draws:=[(1,[0,1,3,0,8,31,0,64,255,0,512,2047,4095,8191],.op 0 (.op 1 (.op 3 (.op 4 (.op 6 (.op 7 (.op 9 (.op 10 (.alt 2 (.alt 5 (.alt 8 (.alt 11 (.op 12 (.alt 13 (.done) (.done))) (.done)) (.done)) (.done)) (.done))))))))))]} (fn:=Tryz.f181) Tryz.func181 (by kernel_rfl) (by kernel_rfl) ?_),
 (fun q0=>Zi Zq (Zd q0 Zl) mixed {loops:=[(0,[.reg 8 (.dat (.int .i64))])]} (fn:=Tryz.f206) Tryz.func206 (by kernel_rfl) (by kernel_rfl) ?_),
 (fun q0 q1=>Zi Zq (Zd q0 (Zd q1 Zl)) mixed {} (fn:=Tryz.f226) Tryz.func226 (by kernel_rfl) (by kernel_rfl) ?_),
 (fun q0=>Zi Zq (Zd q0 Zl) mixed {} (fn:=Tryz.f207) Tryz.func207 (by kernel_rfl) (by kernel_rfl) ?_),
 (fun q0=>Zi Zq (Zd q0 Zl) mixed {} (fn:=Tryz.f248) Tryz.func248 (by kernel_rfl) (by kernel_rfl) ?_),
 (Zi Zq Zl mixed {} (fn:=Tryz.f213) Tryz.func213 (by kernel_rfl) (by kernel_rfl) ?_),
 (fun q2 q1 q0=>Zi Zq (Zd q2 (Zd q1 (Zd q0 Zl))) mixed {} (fn:=Tryz.f214) Tryz.func214 (by kernel_rfl) (by kernel_rfl) ?_),
 (Zi Zq Zl mixed {} (fn:=Tryz.f158) Tryz.func158 (by kernel_rfl) (by kernel_rfl) ?_),
 (fun q0 q2 q3 q1=>Zi Zq (Zd q0 (Zd q2 (Zd q3 (Zd q1 Zl)))) mixed {loops:=[(0,[.reg 15 (.dat (.int .i64))])]} (fn:=Tryz.f166) Tryz.func166 (by kernel_rfl) (by kernel_rfl) ?_),
 (fun q2 q5 q1 q3 q0 q4=>Zi Zq (Zd q2 (Zd q5 (Zd q1 (Zd q3 (Zd q0 (Zd q4 Zl)))))) mixed {} (fn:=Tryz.f101) Tryz.func101 (by kernel_rfl) (by kernel_rfl) ?_),
 (Zi Zq Zl mixed {} (fn:=Tryz.f205) Tryz.func205 (by kernel_rfl) (by kernel_rfl) ?_),
 (fun q0=>Zi Zq (Zd q0 Zl) mixed {loops:=[(0,[.reg 5 (.dat (.int .i64))])],draws:=[(6,[0,0,3,7,0,0,48,112,255,511],.op 0 (.op 1 (.op 2 (.op 3 (.op 4 (.op 5 (.op 6 (.op 7 (.alt 8 (.op 9 (.done)) (.done))))))))))]} (fn:=Tryz.f110) Tryz.func110 (by kernel_rfl) (by kernel_rfl) ?_),
 (fun q0=>Zi Zq (Zd q0 Zl) mixed {loops:=[(0,[.reg 5 (.dat (.int .i64))])],draws:=[(6,[0,0,3,7,0,0,48,112,255,511],.op 0 (.op 1 (.op 2 (.op 3 (.op 4 (.op 5 (.op 6 (.op 7 (.alt 8 (.op 9 (.done)) (.done))))))))))]} (fn:=Tryz.f43) Tryz.func43 (by kernel_rfl) (by kernel_rfl) ?_),
 (fun q0=>Zi Zq (Zd q0 Zl) mixed {loops:=[(0,[.reg 5 (.dat (.int .i64))])],draws:=[(6,[0,0,3,7,0,0,48,112,255,511],.op 0 (.op 1 (.op 2 (.op 3 (.op 4 (.op 5 (.op 6 (.op 7 (.alt 8 (.op 9 (.done)) (.done))))))))))]} (fn:=Tryz.f111) Tryz.func111 (by kernel_rfl) (by kernel_rfl) ?_),
 (fun q0=>Zi Yv (Zd q0 Zl) mixed {loops:=[(0,[.reg 1 (.dat (.int .i64)),.reg 5 (.dat (.int .i64)),.ent 0 (nat_lit 136) (.flat ZU)])]} (fn:=Tryz.f55) Tryz.func55 (by kernel_rfl) (by kernel_rfl) ?_),
 (fun q0=>Zi Yv (Zd q0 Zl) mixed {loops:=[(0,[.reg 1 (.dat (.int .i64)),.reg 5 (.dat (.int .i64)),.ent 0 (nat_lit 140) (Dp.pair (Dp.flat (Ty.int IntKind.i64)) (Dp.pair (Dp.flat (Ty.int IntKind.i64)) (Dp.pair (Dp.ol (2:Go.TypeId) (Dp.flat (Ty.int IntKind.i64))) (Dp.pair (Dp.ol (2:Go.TypeId) (Dp.flat (Ty.int IntKind.i64))) (Dp.pair (Dp.ol (2:Go.TypeId) (Dp.flat (Ty.int IntKind.i64))) (Dp.flat Ty.unit))))))])]} (fn:=Tryz.f57) Tryz.func57 (by kernel_rfl) (by kernel_rfl) ?_),
 (fun q0=>Zi Yv (Zd q0 Zl) mixed {loops:=[(0,[.reg 1 (.dat (.int .i64)),.reg 5 (.dat (.int .i64)),.ent 0 (nat_lit 274) (.flat ZdU)])]} (fn:=Tryz.f186) Tryz.func186 (by kernel_rfl) (by kernel_rfl) ?_),
 (fun q0 q1 q2=>Zi Zq (Zd q0 (Zd q1 (Zd q2 Zl))) mixed {} (fn:=Tryz.f4) Tryz.func4 (by kernel_rfl) (by kernel_rfl) ?_),
 (fun q0=>Zi Zq (Zd q0 Zl) mixed {} (fn:=Tryz.f5) Tryz.func5 (by kernel_rfl) (by kernel_rfl) ?_),
 (fun q0=>Zi Zq (Zd q0 Zl) mixed {} (fn:=Tryz.f123) Tryz.func123 (by kernel_rfl) (by kernel_rfl) ?_),
 (fun q0=>Zi Zq (Zd q0 Zl) mixed {loops:=[(0,[.reg 1 (.dat (.int .i64)),.reg 5 (.dat (.int .i64))])]} (fn:=Tryz.f188) Tryz.func188 (by kernel_rfl) (by kernel_rfl) ?_),
 (fun q3 q1 q0 q2=>Zi Zq (Zd q3 (Zd q1 (Zd q0 (Zd q2 Zl)))) mixed {} (fn:=Tryz.f6) Tryz.func6 (by kernel_rfl) (by kernel_rfl) ?_),
 (fun q0=>Zi Zq (Zd q0 Zl) mixed {loops:=[(0,[.reg 1 (.dat (.int .i64)),.reg 5 (.dat (.int .i64))])]} (fn:=Tryz.f271) Tryz.func271 (by kernel_rfl) (by kernel_rfl) ?_),
 (fun q0=>Zi Zq (Zd q0 Zl) mixed {} (fn:=Tryz.f9) Tryz.func9 (by kernel_rfl) (by kernel_rfl) ?_),
 (fun q0=>Zi Yv (Zd q0 Zl) mixed {loops:=[(0,[.reg 4 (.dat (.int .i64)),.ent 0 (nat_lit 140) Zay])]} (fn:=Tryz.f38) Tryz.func38 (by kernel_rfl) (by kernel_rfl) ?_),
 (fun q0=>Zi Zq (Zd q0 Zl) mixed {} (fn:=Tryz.f95) Tryz.func95 (by kernel_rfl) (by kernel_rfl) ?_),
 (Zi Zq Zl mixed {} (fn:=Tryz.f148) Tryz.func148 (by kernel_rfl) (by kernel_rfl) ?_),
 (fun q0=>Zi Zq (Zd q0 Zl) mixed {} (fn:=Tryz.f293) Tryz.func293 (by kernel_rfl) (by kernel_rfl) ?_),
 (Zi Zq Zl mixed {} (fn:=Tryz.f268) Tryz.func268 (by kernel_rfl) (by kernel_rfl) ?_),
 (fun q0=>Zi Zq (Zd q0 Zl) mixed {} (fn:=Tryz.f296) Tryz.func296 (by kernel_rfl) (by kernel_rfl) ?_),
 (fun q0=>Zi Zq (Zd q0 Zl) mixed {} (fn:=Tryz.f317) Tryz.func317 (by kernel_rfl) (by kernel_rfl) ?_),
 (fun q0=>Zi Zq (Zd q0 Zl) mixed {loops:=[(0,[.reg 8 (.dat (.int .i64))])]} (fn:=Tryz.f227) Tryz.func227 (by kernel_rfl) (by kernel_rfl) ?_),
 (fun q0=>Zi Zq (Zd q0 Zl) mixed {loops:=[(0,[.reg 8 (.dat (.int .i64))])]} (fn:=Tryz.f280) Tryz.func280 (by kernel_rfl) (by kernel_rfl) ?_),
 (fun q1 q0 q2=>Zi Zq (Zd q1 (Zd q0 (Zd q2 Zl))) mixed {} (fn:=Tryz.f78) Tryz.func78 (by kernel_rfl) (by kernel_rfl) ?_),
 (fun q0=>Zi Zq (Zd q0 Zl) mixed {loops:=[(0,[.reg 6 (.dat (.int .i64))]),(2,[.reg 7 (.dat (.int .i64))])]} (fn:=Tryz.f126) Tryz.func126 (by kernel_rfl) (by kernel_rfl) ?_),
 (Zi Zq Zl mixed {loops:=[(0,[.reg 4 (.dat (.int .i64)),.ent 1 (nat_lit 2) (.flat Zxe.ety)])]} (fn:=Tryz.f274) Tryz.func274 (by kernel_rfl) (by kernel_rfl) ?_),
 (fun q0=>Zi Yv (Zd q0 Zl) mixed {loops:=[(0,[.reg 4 (.dat (.int .i64)),.cello 1003 0 (.ol 208 (Zps))])],draws:=[(5,[0,1,0,4,0,28,60,124,252,511,1023,2047],.op 0 (.op 1 (.op 2 (.op 3 (.op 4 (.op 5 (.op 6 (.alt 7 (.alt 8 (.alt 9 (.op 10 (.alt 11 (.done) (.done))) (.done)) (.done)) (.done)))))))))]} (fn:=Tryz.f141) Tryz.func141 (by kernel_rfl) (by kernel_rfl) ?_),
 (Zi Zq Zl mixed {loops:=[(0,[.reg 5 (.dat (.int .i64))])]} (fn:=Tryz.f193) Tryz.func193 (by kernel_rfl) (by kernel_rfl) ?_),
 (fun q0=>Zi Zq (Zd q0 Zl) mixed {draws:=[(1,[0,1,3,0,8,31,0,64,255,0,512,2047,4095,8191],.op 0 (.op 1 (.op 3 (.op 4 (.op 6 (.op 7 (.op 9 (.op 10 (.alt 2 (.alt 5 (.alt 8 (.alt 11 (.op 12 (.alt 13 (.done) (.done))) (.done)) (.done)) (.done)) (.done))))))))))]} (fn:=Tryz.f88) Tryz.func88 (by kernel_rfl) (by kernel_rfl) ?_),
 (fun q0=>Zi Zq (Zd q0 Zl) mixed {} (fn:=Tryz.f136) Tryz.func136 (by kernel_rfl) (by kernel_rfl) ?_),
 (fun q1 q0=>Zi Yv (Zd q1 (Zd q0 Zl)) mixed {loops:=[(0,[.reg 6 (.own (.ol 136 (.flat (ZU)))),.reg 7 (.dat (.int .i64))]),(2,[.reg 9 (.own (.ol 140 (Zay))),.reg 10 (.dat (.bool)),.reg 11 (.dat (.int .i64))])],draws:=[(20,[0,0,2,0,14,0,32,0,254,0,0,2047,0,4095,16383],.op 0 (.op 1 (.op 2 (.op 3 (.op 5 (.op 6 (.op 7 (.op 9 (.op 10 (.op 12 (.alt 4 (.alt 8 (.op 11 (.alt 13 (.op 14 (.done)) (.done))) (.done)) (.done))))))))))))]} (fn:=Tryz.f29) Tryz.func29 (by kernel_rfl) (by kernel_rfl) ?_)⟩
 all_goals
  intro a
  repeat rcases a with ⟨_,a⟩
  rintro K ⟨r,h,hK⟩
  repeat'
    conv=>whnf
    first
    | with_reducible refine ZwB ?_
    | with_reducible refine ZfW (by assumption) (by assumption) (by assumption) ?_
    | with_reducible refine Vd (by assumption) ?_
    | with_reducible refine Zf1 (by assumption) ?_
    | (with_reducible refine shD ?_);first | refine Zo7 h (fun h=>?_) (fun h=>?_) | refine ZuW h (fun h=>?_) (fun h=>?_)
    | (with_reducible refine Zxc ?_);first | refine ZxD ?_ | refine Zng ?_
    | (with_reducible refine ZCb ?_);first | refine ZtV h (fun h=>?_) (fun h=>?_) | refine Zxf h (fun h=>?_) (fun h=>?_)
    | (with_reducible refine ZwQ ?_);(refine ⟨fun hd=>?_,?_⟩)<;>try subst hd
    | (with_reducible refine ZCj ?_);first | with_reducible refine ZbB h (fun x hb h=>?_) | refine Zf1 (by assumption) ?_ | with_reducible refine pG h (fun hp h=>?_) | with_reducible refine pA h (fun x ha hb hx h=>?_) | with_reducible refine pB h (fun x hb h=>?_) | refine ZbB h (fun x hb h=>?_)
    | (with_reducible refine ZB5 ?_);first | with_reducible refine vAt h (fun x ha hb hx h=>?_) | refine ZfW (by assumption) (by assumption) (by assumption) ?_ | with_reducible refine pG h (fun hp h=>?_) | with_reducible refine pA h (fun x ha hb hx h=>?_) | with_reducible refine pB h (fun x hb h=>?_) | refine vAt h (fun x ha hb hx h=>?_)
    | (with_reducible refine Zxa ?_);first | with_reducible refine ZpJ h (fun x hb h=>?_) | refine Vd (by assumption) ?_ | with_reducible refine pG h (fun hp h=>?_) | with_reducible refine pA h (fun x ha hb hx h=>?_) | with_reducible refine pB h (fun x hb h=>?_) | refine ZpJ h (fun x hb h=>?_)
    | with_reducible refine ZB7 ?_
    | (with_reducible refine Zsj ?_);refine ZrZ h hK ?_;clear h hK;intro I μ v r h hK;(repeat rcases v with ⟨_,v⟩);(try dsimp only at h)
    | with_reducible refine ⟨by assumption,?_⟩
    | with_reducible refine orL ?_
    | with_reducible refine .inr ?_
    | (with_reducible refine Zxb ?_);first | refine ⟨?_,True.intro⟩ | refine ⟨?_,?_⟩
    | refine ⟨by kernel_rfl,?_⟩
    | refine ⟨by decide,?_⟩
    | with_reducible refine Zrq h (fun hp h=>?_)
    | intro fp
    | exact trivial
    | with_reducible exact Zw1 h
    | (refine pS h (fun e=>?_));subst e;(repeat (first | exact hK | exact ⟨⟨rfl,rfl⟩,hK.1 _ rfl⟩ | (refine pR hK (fun e hK=>?_));subst e));done
    | refine Zrq h (fun hp h=>?_)
    | refine ⟨by assumption,?_⟩
    | with_reducible refine pG h (fun hp h=>?_) | with_reducible refine pA h (fun x ha hb hx h=>?_) | with_reducible refine pB h (fun x hb h=>?_)
    | refine pG h (fun hp h=>?_)
    | fail
theorem w_laws_FnExactSetupAfter (q6:Zc Tryz.prog 4 c18) (q12:Zc Tryz.prog 5 c19) (q7:Zc Tryz.prog 6 c27) (q8:Zc Tryz.prog 8 c46) (q13:Zc Tryz.prog 9 c47) (q9:Zc Tryz.prog 10 c57) (q0:Zc Tryz.prog 7 ZFV) (q1:Zc Tryz.prog 11 ZEE) (q10:Zc Tryz.prog 12 ZGf) (q11:Zc Tryz.prog 13 ZGV) (q14:Zc Tryz.prog 14 ZEj) (q2:Zc Tryz.prog 15 ZFl) (q5:Zc Tryz.prog 16 ZD6) (q3:Zc Tryz.prog 17 ZFf) (q4:Zc Tryz.prog 18 ZF4):Zc Tryz.prog 3 ZdR:=by
 refine Zi Zq (Zd q6 (Zd q12 (Zd q7 (Zd q8 (Zd q13 (Zd q9 (Zd q0 (Zd q1 (Zd q10 (Zd q11 (Zd q14 (Zd q2 (Zd q5 (Zd q3 (Zd q4 Zl))))))))))))))) mixed {draws:=[(11,[0,1,0,7,0,31,63,127,255,255,0,1535,4095],.op 0 (.op 2 (.op 4 (.alt 1 (.alt 3 (.alt 5 (.alt 6 (.op 7 (.op 8 (.op 9 (.alt 10 (.alt 11 (.op 12 (.done)) (.done)) (.done))))) (.alt 10 (.alt 6 (.op 7 (.op 8 (.op 9 (.alt 11 (.op 12 (.done)) (.done))))) (.done)) (.done))) (.alt 10 (.alt 5 (.alt 6 (.op 7 (.op 8 (.op 9 (.alt 11 (.op 12 (.done)) (.done))))) (.done)) (.done)) (.done))) (.alt 10 (.alt 3 (.alt 5 (.alt 6 (.op 7 (.op 8 (.op 9 (.alt 11 (.op 12 (.done)) (.done))))) (.done)) (.done)) (.done)) (.done))) (.alt 10 (.alt 1 (.alt 3 (.alt 5 (.alt 6 (.op 7 (.op 8 (.op 9 (.alt 11 (.op 12 (.done)) (.done))))) (.done)) (.done)) (.done)) (.done)) (.done)))))),(18,[0,0,2,7,15],.op 0 (.op 1 (.alt 2 (.alt 3 (.op 4 (.done)) (.done)) (.done)))),(20,[0,0,2,7,15],.op 0 (.op 1 (.alt 2 (.alt 3 (.op 4 (.done)) (.done)) (.done)))),(22,[0,0,2,7,15],.op 0 (.op 1 (.alt 2 (.alt 3 (.op 4 (.done)) (.done)) (.done)))),(38,[0,1,0,7,0,31,63,127,255,255,0,1535,4095],.op 0 (.op 2 (.op 4 (.alt 1 (.alt 3 (.alt 5 (.alt 6 (.op 7 (.op 8 (.op 9 (.alt 10 (.alt 11 (.op 12 (.done)) (.done)) (.done))))) (.alt 10 (.alt 6 (.op 7 (.op 8 (.op 9 (.alt 11 (.op 12 (.done)) (.done))))) (.done)) (.done))) (.alt 10 (.alt 5 (.alt 6 (.op 7 (.op 8 (.op 9 (.alt 11 (.op 12 (.done)) (.done))))) (.done)) (.done)) (.done))) (.alt 10 (.alt 3 (.alt 5 (.alt 6 (.op 7 (.op 8 (.op 9 (.alt 11 (.op 12 (.done)) (.done))))) (.done)) (.done)) (.done)) (.done))) (.alt 10 (.alt 1 (.alt 3 (.alt 5 (.alt 6 (.op 7 (.op 8 (.op 9 (.alt 11 (.op 12 (.done)) (.done))))) (.done)) (.done)) (.done)) (.done)) (.done))))))]} (fn:=Tryz.f3) Tryz.func3 (by kernel_rfl) (by kernel_rfl) ?_
 rintro ⟨a0,a1,a2,⟨⟩⟩ K ⟨r,h,hK⟩
 change QF a0 a1 a2=some r at h
 unfold QF at h
 conv=>whnf
 refine ZbB h (fun szBlock0 hb0 h=>?_)
 conv=>whnf
 refine Zo7 h (fun h=>?_) (fun h=>?_)
 conv=>whnf
 cases h
 exact hK
 conv=>whnf
 refine ZbB h (fun szEdit0 hb1 h=>?_)
 conv=>whnf
 refine Zo7 h (fun h=>?_) (fun h=>?_)
 conv=>whnf
 cases h
 exact hK
 conv=>whnf
 refine ZbB h (fun szSetup0 hb2 h=>?_)
 conv=>whnf
 refine Zo7 h (fun h=>?_) (fun h=>?_)
 conv=>whnf
 cases h
 exact hK
 focus
  conv=>whnf
  refine ⟨by kernel_rfl,?_⟩
  conv=>whnf
  obtain ⟨toBlock0,hb3,h⟩:=Option.bind_eq_some_iff.1 h
  obtain ⟨toEdit0,hb7,h⟩:=Option.bind_eq_some_iff.1 h
  obtain ⟨toSetup0,hb8,h⟩:=Option.bind_eq_some_iff.1 h
  obtain ⟨SetupAfter0,hb10,h⟩:=Option.bind_eq_some_iff.1 h
  refine ⟨?_,?_⟩
  rotate_left
  focus
   conv=>whnf
   refine ⟨_,hb3,?_⟩
   conv=>whnf
   intro fp46
   conv=>whnf
   intro fp47
   conv=>whnf
   intro fp48
   conv=>whnf
   refine ⟨_,hb7,?_⟩
   conv=>whnf
   refine ⟨_,hb8,?_⟩
   conv=>whnf
   intro fp49
   conv=>whnf
   refine ⟨_,hb10,?_⟩
   conv=>whnf
   intro fp50
   conv=>whnf
   refine ⟨trivial,?_⟩
  rotate_right
  focus
   conv=>whnf
   refine ⟨_,hb3,?_⟩
   conv=>whnf
   intro fp46
   conv=>whnf
   intro fp47
   conv=>whnf
   intro fp48
   conv=>whnf
   refine ⟨?_,?_⟩
   rotate_left
   focus
    conv=>whnf
    refine ⟨_,hb7,?_⟩
    conv=>whnf
    refine ⟨_,hb8,?_⟩
    conv=>whnf
    intro fp49
    conv=>whnf
    refine ⟨_,hb10,?_⟩
    conv=>whnf
    intro fp50
    conv=>whnf
    refine ⟨trivial,?_⟩
   rotate_right
   focus
    conv=>whnf
    refine ⟨_,hb7,?_⟩
    conv=>whnf
    refine ⟨?_,?_⟩
    rotate_left
    focus
     conv=>whnf
     refine ⟨_,hb8,?_⟩
     conv=>whnf
     intro fp49
     conv=>whnf
     refine ⟨_,hb10,?_⟩
     conv=>whnf
     intro fp50
     conv=>whnf
     refine ⟨trivial,?_⟩
    rotate_right
    focus
     conv=>whnf
     refine ⟨_,hb8,?_⟩
     conv=>whnf
     intro fp49
     conv=>whnf
     refine ⟨?_,?_⟩
     rotate_left
     focus
      conv=>whnf
      refine ⟨_,hb10,?_⟩
      conv=>whnf
      intro fp50
      conv=>whnf
      refine ⟨trivial,?_⟩
     rotate_right
     focus
      conv=>whnf
      refine ⟨_,hb10,?_⟩
      conv=>whnf
      intro fp50
      conv=>whnf
      refine ⟨trivial,?_⟩
  all_goals
   conv=>whnf
   refine ⟨_,hb3,?_⟩
   conv=>whnf
   intro fp12
   conv=>whnf
   intro fp13
   conv=>whnf
   intro fp14
   conv=>whnf
   refine ⟨_,hb7,?_⟩
   conv=>whnf
   refine ⟨_,hb8,?_⟩
   conv=>whnf
   intro fp15
   conv=>whnf
   refine ZbB h (fun SetupAfter1 hb16 h=>?_)
   conv=>whnf
   intro fp17
   conv=>whnf
   refine ZbB h (fun eqSetup0 hb18 h=>?_)
   conv=>whnf
   refine ZxD ?_
   refine ZtV h (fun h=>?_) (fun h=>?_)
   conv=>whnf
   refine Zng ?_
   refine Zo7 h (fun h=>?_) (fun h=>?_)
   conv=>whnf
   refine ⟨by kernel_rfl,?_⟩
   conv=>whnf
   refine ⟨_,hb3,?_⟩
   conv=>whnf
   intro fp19
   conv=>whnf
   intro fp20
   conv=>whnf
   intro fp21
   conv=>whnf
   refine ZbB h (fun eqBlock0 hb22 h=>?_)
   conv=>whnf
   refine ⟨trivial,?_⟩
   conv=>whnf
   refine Zng ?_
   refine ZtV h (fun h=>?_) (fun h=>?_)
   conv=>whnf
   refine ⟨by kernel_rfl,?_⟩
   conv=>whnf
   refine ⟨_,hb7,?_⟩
   conv=>whnf
   refine ZbB h (fun eqEdit0 hb23 h=>?_)
   conv=>whnf
   refine ⟨trivial,?_⟩
   conv=>whnf
   refine Zng ?_
   refine ZtV h (fun h=>?_) (fun h=>?_)
   conv=>whnf
   refine ⟨by kernel_rfl,?_⟩
   conv=>whnf
   refine ⟨_,hb8,?_⟩
   conv=>whnf
   intro fp24
   conv=>whnf
   refine ZbB h (fun eqSetup1 hb25 h=>?_)
   conv=>whnf
   refine ⟨trivial,?_⟩
   conv=>whnf
   refine Zng ?_
   refine ZtV h (fun h=>?_) (fun h=>?_)
   conv=>whnf
   refine ZbB h (fun markBlock0 hb26 h=>?_)
   conv=>whnf
   intro fp27
   conv=>whnf
   intro fp28
   conv=>whnf
   intro fp29
   conv=>whnf
   refine ZbB h (fun markEdit0 hb30 h=>?_)
   conv=>whnf
   refine ZbB h (fun markSetup0 hb31 h=>?_)
   conv=>whnf
   intro fp32
   conv=>whnf
   refine ZuW h (fun h=>?_) (fun h=>?_)
   conv=>whnf
   cases h
   exact hK
   conv=>whnf
   refine ⟨_,hb18,?_⟩
   conv=>whnf
   refine ZxD ?_
   refine ZtV h (fun h=>?_) (fun h=>?_)
   conv=>whnf
   refine Zng ?_
   refine Zo7 h (fun h=>?_) (fun h=>?_)
   conv=>whnf
   refine ZbB h (fun markSetup1 hb33 h=>?_)
   conv=>whnf
   intro fp34
   conv=>whnf
   refine ZbB h (fun heldSetup0 hb35 h=>?_)
   conv=>whnf
   refine Zo7 h (fun h=>?_) (fun h=>?_)
   conv=>whnf
   cases h
   exact hK
   conv=>whnf
   refine Zng ?_
   refine Zo7 h (fun h=>?_) (fun h=>?_)
   focus
    conv=>whnf
    refine ⟨by kernel_rfl,?_⟩
    conv=>whnf
    refine ⟨?_,?_⟩
    rotate_left
    focus
     conv=>whnf
     refine ⟨_,hb3,?_⟩
     conv=>whnf
     intro fp36
     conv=>whnf
     intro fp37
     conv=>whnf
     intro fp38
     conv=>whnf
     refine ⟨_,hb7,?_⟩
     conv=>whnf
     refine ⟨_,hb8,?_⟩
     conv=>whnf
     intro fp39
     conv=>whnf
     refine ⟨_,hb16,?_⟩
     conv=>whnf
     intro fp40
     conv=>whnf
     refine ⟨trivial,?_⟩
    rotate_right
    focus
     conv=>whnf
     refine ⟨_,hb3,?_⟩
     conv=>whnf
     intro fp36
     conv=>whnf
     intro fp37
     conv=>whnf
     intro fp38
     conv=>whnf
     refine ⟨?_,?_⟩
     rotate_left
     focus
      conv=>whnf
      refine ⟨_,hb7,?_⟩
      conv=>whnf
      refine ⟨_,hb8,?_⟩
      conv=>whnf
      intro fp39
      conv=>whnf
      refine ⟨_,hb16,?_⟩
      conv=>whnf
      intro fp40
      conv=>whnf
      refine ⟨trivial,?_⟩
     rotate_right
     focus
      conv=>whnf
      refine ⟨_,hb7,?_⟩
      conv=>whnf
      refine ⟨?_,?_⟩
      rotate_left
      focus
       conv=>whnf
       refine ⟨_,hb8,?_⟩
       conv=>whnf
       intro fp39
       conv=>whnf
       refine ⟨_,hb16,?_⟩
       conv=>whnf
       intro fp40
       conv=>whnf
       refine ⟨trivial,?_⟩
      rotate_right
      focus
       conv=>whnf
       refine ⟨_,hb8,?_⟩
       conv=>whnf
       intro fp39
       conv=>whnf
       refine ⟨?_,?_⟩
       rotate_left
       focus
        conv=>whnf
        refine ⟨_,hb16,?_⟩
        conv=>whnf
        intro fp40
        conv=>whnf
        refine ⟨trivial,?_⟩
       rotate_right
       focus
        conv=>whnf
        refine ⟨_,hb16,?_⟩
        conv=>whnf
        intro fp40
        conv=>whnf
        refine ⟨trivial,?_⟩
    all_goals
     conv=>whnf
     refine ⟨_,hb18,?_⟩
     conv=>whnf
     refine ZxD ?_
     refine ZtV h (fun h=>?_) (fun h=>?_)
     conv=>whnf
     refine Zng ?_
     refine Zo7 h (fun h=>?_) (fun h=>?_)
     conv=>whnf
     refine ⟨_,hb35,?_⟩
     conv=>whnf
     refine Zo7 h (fun h=>?_) (fun h=>?_)
     conv=>whnf
     cases h
     exact hK
     conv=>whnf
     refine Zng ?_
     refine Zo7 h (fun h=>?_) (fun h=>?_)
     conv=>whnf
     cases h
     exact hK
     conv=>whnf
     cases h
     exact hK
     conv=>whnf
     cases h
     exact hK
     conv=>whnf
     cases h
     exact hK
   conv=>whnf
   cases h
   exact hK
   conv=>whnf
   cases h
   exact hK
   conv=>whnf
   cases h
   exact hK
   conv=>whnf
   cases h
   exact hK
   conv=>whnf
   cases h
   exact hK
   conv=>whnf
   cases h
   exact hK
   conv=>whnf
   cases h
   exact hK
   conv=>whnf
   cases h
   exact hK
end Go.Proofs.YtoefbkmllkpkkaaGreatDoor
