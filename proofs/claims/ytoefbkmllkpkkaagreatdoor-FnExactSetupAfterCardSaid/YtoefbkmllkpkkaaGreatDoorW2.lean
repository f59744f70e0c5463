/-
  The functions keep their contracts, if what they call does. Printed by program.
-/
import Derived.Test.YtoefbkmllkpkkaaGreatDoorM
import Derived.KernelRfl
namespace Go.Proofs.YtoefbkmllkpkkaaGreatDoor
open Go Go.Sx
set_option maxRecDepth 100000
set_option maxHeartbeats 3200000
set_option linter.unusedVariables false
set_option linter.unusedSimpArgs false
structure Ws2:Prop where
 w197:Zc Tryz.prog 156 c196→Zc Tryz.prog 221 ZFR
 w195:Zc Tryz.prog 220 ZFm
 w161:Zc Tryz.prog 202 c160→Zc Tryz.prog 246 ZE1
 w189:Zc Tryz.prog 152 ZGY→Zc Tryz.prog 153 ZGu→Zc Tryz.prog 99 ZGS
 w185:Zc Tryz.prog 254 ZEZ→Zc Tryz.prog 215 ZFs
 w172:Zc Tryz.prog 149 c168→Zc Tryz.prog 150 Zv9→Zc Tryz.prog 151 c171→Zc Tryz.prog 98 ZDS
 w204:Zc Tryz.prog 222 c203→Zc Tryz.prog 223 c124→Zc Tryz.prog 159 ZEa
 w228:Zc Tryz.prog 168 ZG0→Zc Tryz.prog 169 c226→Zc Tryz.prog 170 c227→Zc Tryz.prog 171 c193→Zc Tryz.prog 102 c228
 w139:Zc Tryz.prog 317 c138→Zc Tryz.prog 308 c139
 w221:Zc Tryz.prog 231 ZEY
 w127:Zc Tryz.prog 155 c127
 w266:Zc Tryz.prog 290 ZF0→Zc Tryz.prog 270 ZGQ
 w259:Zc Tryz.prog 109 ZGZ
 w276:Zc Tryz.prog 111 ZGg→Zc Tryz.prog 112 ZD8→Zc Tryz.prog 113 ZFB→Zc Tryz.prog 48 ZGm
 w280:Zc Tryz.prog 50 ZDZ→Zc Tryz.prog 14 ZEj
 w255:Zc Tryz.prog 107 ZEW→Zc Tryz.prog 44 ZEp
 w274:Zc Tryz.prog 185 ZFZ
 w273:Zc Tryz.prog 112 ZD8
 w302:Zc Tryz.prog 60 ZEN
 w293:Zc Tryz.prog 51 ZEf→Zc Tryz.prog 52 ZFL→Zc Tryz.prog 53 ZGN→Zc Tryz.prog 15 ZFl
 w286:Zc Tryz.prog 120 Zxw→Zc Tryz.prog 186 ZEG→Zc Tryz.prog 187 ZGK→Zc Tryz.prog 119 ZA9→Zc Tryz.prog 115 ZEB
 w291:Zc Tryz.prog 116 ZFg→Zc Tryz.prog 117 ZFo→Zc Tryz.prog 118 ZGc→Zc Tryz.prog 52 ZFL
 w295:Zc Tryz.prog 54 ZGe→Zc Tryz.prog 16 ZD6
 w292:Zc Tryz.prog 119 ZA9→Zc Tryz.prog 53 ZGN
 w8:Zc Tryz.prog 122 c7→Zc Tryz.prog 63 c8
 w20:Zc Tryz.prog 68 c20
 w23:Zc Tryz.prog 67 c2→Zc Tryz.prog 69 c23
 w12:Zc Tryz.prog 65 c12
 w33:Zc Tryz.prog 276 c32→Zc Tryz.prog 243 c33
 w46:Zc Tryz.prog 32 c37→Zc Tryz.prog 33 c43→Zc Tryz.prog 34 c45→Zc Tryz.prog 8 c46
 w55:Zc Tryz.prog 97 c55
 w52:Zc Tryz.prog 95 c51→Zc Tryz.prog 37 c52
 w38:Zc Tryz.prog 93 c30→Zc Tryz.prog 146 c38
 w30:Zc Tryz.prog 93 c30
 w45:Zc Tryz.prog 35 c44→Zc Tryz.prog 34 c45
 w225:Zc Tryz.prog 168 ZG0
 w233:Zc Tryz.prog 263 c233
 w193:Zc Tryz.prog 171 c193
 w151:Zc Tryz.prog 312 ZGX→Zc Tryz.prog 311 ZFa
 w166:Zc Tryz.prog 204 ZET→Zc Tryz.prog 247 ZEu
 w67:Zc Tryz.prog 272 c60→Zc Tryz.prog 131 c58→Zc Tryz.prog 128 c59→Zc Tryz.prog 273 c65→Zc Tryz.prog 274 c66→Zc Tryz.prog 240 c67
 w62:Zc Tryz.prog 326 c61→Zc Tryz.prog 128 c59→Zc Tryz.prog 316 c62
 w61:Zc Tryz.prog 128 c59→Zc Tryz.prog 326 c61
 w103:Zc Tryz.prog 143 ZBh
 w58:Zc Tryz.prog 131 c58
 w60:Zc Tryz.prog 131 c58→Zc Tryz.prog 128 c59→Zc Tryz.prog 272 c60
 w70:Zc Tryz.prog 131 c58→Zc Tryz.prog 192 c70
 w73:Zc Tryz.prog 77 c72→Zc Tryz.prog 127 c73
 w77:Zc Tryz.prog 77 c72→Zc Tryz.prog 128 c59→Zc Tryz.prog 73 c77
 w85:Zc Tryz.prog 77 c72→Zc Tryz.prog 129 c78→Zc Tryz.prog 130 c79→Zc Tryz.prog 131 c58→Zc Tryz.prog 132 c80→Zc Tryz.prog 133 c82→Zc Tryz.prog 134 c84→Zc Tryz.prog 127 c73→Zc Tryz.prog 126 c74→Zc Tryz.prog 74 c85
 w97:Zc Tryz.prog 77 c72→Zc Tryz.prog 128 c59→Zc Tryz.prog 140 c96→Zc Tryz.prog 79 c97
set_option maxHeartbeats 100000000 in
theorem ws2:Ws2:=by
 refine ⟨(fun q0=>Zi Zq (Zd q0 Zl) mixed {loops:=[(0,[.reg 8 (.dat (.int .i64)),.ent 3 (nat_lit 2) (.flat Zxe.ety)])],draws:=[(1,[0,1,0,7,15,0,0,96,0,511,1023],.op 0 (.op 1 (.op 2 (.op 3 (.op 4 (.op 5 (.op 6 (.alt 7 (.alt 8 (.alt 9 (.op 10 (.done)) (.done)) (.done)) (.alt 8 (.alt 7 (.alt 9 (.op 10 (.done)) (.done)) (.done)) (.done)))))))))),(6,[0,0,0,0,8,0,56,120,252,508,0,1024,0,7168,15360,0,0,98304,229376,523264,1048572,2097151,4194303],.op 0 (.op 1 (.op 2 (.op 3 (.op 4 (.op 5 (.op 6 (.op 7 (.op 8 (.op 9 (.op 10 (.op 11 (.op 12 (.op 13 (.op 14 (.op 15 (.op 16 (.op 17 (.op 18 (.op 19 (.op 20 (.op 21 (.alt 22 (.done) (.done))))))))))))))))))))))))]} (fn:=Tryz.f221) Tryz.func221 (by kernel_rfl) (by kernel_rfl) ?_),
 (Zi Zq Zl mixed {draws:=[(3,[0,1,0,4,0,16,60,124,252,511,1023,2047,0,4096,16383,32767,65535,131071],.op 0 (.op 1 (.op 2 (.op 3 (.op 4 (.op 5 (.op 6 (.op 7 (.op 8 (.op 9 (.op 10 (.op 11 (.op 12 (.op 13 (.op 14 (.op 15 (.op 16 (.op 17 (.done)))))))))))))))))))]} (fn:=Tryz.f220) Tryz.func220 (by kernel_rfl) (by kernel_rfl) ?_),
 (fun q0=>Zi Zq (Zd q0 Zl) mixed {} (fn:=Tryz.f246) Tryz.func246 (by kernel_rfl) (by kernel_rfl) ?_),
 (fun q1 q0=>Zi Zq (Zd q1 (Zd q0 Zl)) mixed {} (fn:=Tryz.f99) Tryz.func99 (by kernel_rfl) (by kernel_rfl) ?_),
 (fun q0=>Zi Zq (Zd q0 Zl) mixed {} (fn:=Tryz.f215) Tryz.func215 (by kernel_rfl) (by kernel_rfl) ?_),
 (fun q1 q0 q2=>Zi Zq (Zd q1 (Zd q0 (Zd q2 Zl))) mixed {loops:=[(0,[.reg 32 (.dat (.int .i64)),.ent 1 (nat_lit 2) (.flat Zxe.ety)]),(2,[.reg 50 (.dat (.int .i64))])],draws:=[(13,[0,0,0,6,14,31,63],.op 0 (.op 1 (.op 2 (.op 3 (.op 4 (.alt 5 (.op 6 (.done)) (.done)))))))]} (fn:=Tryz.f98) Tryz.func98 (by kernel_rfl) (by kernel_rfl) ?_),
 (fun q1 q0=>Zi Zq (Zd q1 (Zd q0 Zl)) mixed {loops:=[(0,[.reg 3 (.own (.ol 9 (.flat (.str)))),.reg 11 (.dat (.int .i64))])]} (fn:=Tryz.f159) Tryz.func159 (by kernel_rfl) (by kernel_rfl) ?_),
 (fun q2 q0 q1 q3=>Zi Yv (Zd q2 (Zd q0 (Zd q1 (Zd q3 Zl)))) mixed {loops:=[(0,[.reg 22 (.dat (.int .i64)),.cello 1003 3 (.ol 140 (Zay))])],draws:=[(1,[0,1,3,0,8,31,0,64,255,0,512,2047,4095,0,16383],.op 0 (.op 1 (.op 3 (.op 4 (.op 6 (.op 7 (.op 9 (.op 10 (.alt 2 (.alt 5 (.alt 8 (.alt 11 (.op 12 (.alt 13 (.alt 14 (.done) (.done)) (.done))) (.alt 13 (.alt 11 (.op 12 (.alt 14 (.done) (.done))) (.done)) (.done))) (.alt 13 (.alt 8 (.alt 11 (.op 12 (.alt 14 (.done) (.done))) (.done)) (.done)) (.done))) (.alt 13 (.alt 5 (.alt 8 (.alt 11 (.op 12 (.alt 14 (.done) (.done))) (.done)) (.done)) (.done)) (.done))) (.alt 13 (.alt 2 (.alt 5 (.alt 8 (.alt 11 (.op 12 (.alt 14 (.done) (.done))) (.done)) (.done)) (.done)) (.done)) (.done))))))))))),(5,[0,1,0,4,0,16,0,64,192,0,512,1984,0,4096,16320,32764,65532,131071,262143,524287],.op 0 (.op 1 (.op 2 (.op 3 (.op 4 (.op 5 (.op 6 (.op 7 (.op 9 (.op 10 (.op 12 (.op 13 (.alt 8 (.alt 11 (.alt 14 (.op 15 (.alt 16 (.alt 17 (.op 18 (.alt 19 (.done) (.done))) (.done)) (.done))) (.done)) (.done)) (.done))))))))))))))]} (fn:=Tryz.f102) Tryz.func102 (by kernel_rfl) (by kernel_rfl) ?_),
 (fun q0=>Zi Zq (Zd q0 Zl) mixed {} (fn:=Tryz.f308) Tryz.func308 (by kernel_rfl) (by kernel_rfl) ?_),
 (Zi Zq Zl mixed {} (fn:=Tryz.f231) Tryz.func231 (by kernel_rfl) (by kernel_rfl) ?_),
 (Zi Zq Zl mixed {} (fn:=Tryz.f155) Tryz.func155 (by kernel_rfl) (by kernel_rfl) ?_),
 (fun q0=>Zi Zq (Zd q0 Zl) mixed {} (fn:=Tryz.f270) Tryz.func270 (by kernel_rfl) (by kernel_rfl) ?_),
 (Zi Zq Zl mixed {} (fn:=Tryz.f109) Tryz.func109 (by kernel_rfl) (by kernel_rfl) ?_),
 (fun q0 q1 q2=>Zi Zq (Zd q0 (Zd q1 (Zd q2 Zl))) mixed {} (fn:=Tryz.f48) Tryz.func48 (by kernel_rfl) (by kernel_rfl) ?_),
 (fun q0=>Zi Zq (Zd q0 Zl) mixed {} (fn:=Tryz.f14) Tryz.func14 (by kernel_rfl) (by kernel_rfl) ?_),
 (fun q0=>Zi Zq (Zd q0 Zl) mixed {loops:=[(0,[.reg 5 (.dat (.int .i64))])],draws:=[(6,[0,0,3,7,0,0,48,112,255,511],.op 0 (.op 1 (.op 2 (.op 3 (.op 4 (.op 5 (.op 6 (.op 7 (.alt 8 (.op 9 (.done)) (.done))))))))))]} (fn:=Tryz.f44) Tryz.func44 (by kernel_rfl) (by kernel_rfl) ?_),
 (Zi Zq Zl mixed {} (fn:=Tryz.f185) Tryz.func185 (by kernel_rfl) (by kernel_rfl) ?_),
 (Zi Zq Zl mixed {loops:=[(0,[.reg 5 (.dat (.int .i64))])],draws:=[(6,[0,0,3,7,0,0,48,112,255],.op 0 (.op 1 (.op 2 (.op 3 (.op 4 (.op 5 (.op 6 (.op 7 (.op 8 (.done))))))))))]} (fn:=Tryz.f112) Tryz.func112 (by kernel_rfl) (by kernel_rfl) ?_),
 (Zi Zq Zl mixed {loops:=[(0,[.reg 1 (.dat (.int .i64)),.reg 5 (.dat (.int .i64))])]} (fn:=Tryz.f60) Tryz.func60 (by kernel_rfl) (by kernel_rfl) ?_),
 (fun q0 q1 q2=>Zi Yv (Zd q0 (Zd q1 (Zd q2 Zl))) mixed {} (fn:=Tryz.f15) Tryz.func15 (by kernel_rfl) (by kernel_rfl) ?_),
 (fun q1 q2 q3 q0=>Zi Yv (Zd q1 (Zd q2 (Zd q3 (Zd q0 Zl)))) mixed {loops:=[(0,[.reg 1 (.dat (.int .i64)),.reg 5 (.dat (.int .i64)),.ent 0 (nat_lit 208) (Dp.pair (Dp.flat Ty.str) (Dp.pair (Dp.flat (Ty.int IntKind.i64)) (Dp.pair (Dp.ol (274:Go.TypeId) (Dp.flat ZdU)) (Dp.pair (Dp.ol (292:Go.TypeId) Zxk) (Dp.pair (Dp.ol (2:Go.TypeId) (Dp.flat (Ty.int IntKind.i64))) (Dp.pair (Dp.flat (Ty.int IntKind.i64)) (Dp.pair (Dp.flat (Ty.int IntKind.i64)) (Dp.flat Ty.unit))))))))])]} (fn:=Tryz.f115) Tryz.func115 (by kernel_rfl) (by kernel_rfl) ?_),
 (fun q0 q1 q2=>Zi Yv (Zd q0 (Zd q1 (Zd q2 Zl))) mixed {} (fn:=Tryz.f52) Tryz.func52 (by kernel_rfl) (by kernel_rfl) ?_),
 (fun q0=>Zi Yv (Zd q0 Zl) mixed {} (fn:=Tryz.f16) Tryz.func16 (by kernel_rfl) (by kernel_rfl) ?_),
 (fun q0=>Zi Yv (Zd q0 Zl) mixed {loops:=[(0,[.reg 1 (.dat (.int .i64)),.reg 5 (.dat (.int .i64)),.ent 0 (nat_lit 66) (Dp.pair (Dp.ol (2:Go.TypeId) (Dp.flat (Ty.int IntKind.i64))) (Dp.pair (Dp.ol (2:Go.TypeId) (Dp.flat (Ty.int IntKind.i64))) (Dp.pair (Dp.ol (2:Go.TypeId) (Dp.flat (Ty.int IntKind.i64))) (Dp.pair (Dp.ol (2:Go.TypeId) (Dp.flat (Ty.int IntKind.i64))) (Dp.flat Ty.unit)))))])]} (fn:=Tryz.f53) Tryz.func53 (by kernel_rfl) (by kernel_rfl) ?_),
 (fun q0=>Zi Zq (Zd q0 Zl) mixed {loops:=[(0,[.reg 1 (.dat (.int .i64)),.reg 5 (.dat (.int .i64))])]} (fn:=Tryz.f63) Tryz.func63 (by kernel_rfl) (by kernel_rfl) ?_),
 (Zi Zq Zl mixed {} (fn:=Tryz.f68) Tryz.func68 (by kernel_rfl) (by kernel_rfl) ?_),
 (fun q0=>Zi Zq (Zd q0 Zl) mixed {} (fn:=Tryz.f69) Tryz.func69 (by kernel_rfl) (by kernel_rfl) ?_),
 (Zi Zq Zl mixed {loops:=[(0,[.reg 1 (.dat (.int .i64)),.reg 5 (.dat (.int .i64))])]} (fn:=Tryz.f65) Tryz.func65 (by kernel_rfl) (by kernel_rfl) ?_),
 (fun q0=>Zi Yv (Zd q0 Zl) mixed {} (fn:=Tryz.f243) Tryz.func243 (by kernel_rfl) (by kernel_rfl) ?_),
 (fun q0 q1 q2=>Zi Yv (Zd q0 (Zd q1 (Zd q2 Zl))) mixed {} (fn:=Tryz.f8) Tryz.func8 (by kernel_rfl) (by kernel_rfl) ?_),
 (Zi Zq Zl mixed {} (fn:=Tryz.f97) Tryz.func97 (by kernel_rfl) (by kernel_rfl) ?_),
 (fun q0=>Zi Zq (Zd q0 Zl) mixed {loops:=[(0,[.reg 4 (.dat (.int .i64)),.ent 0 (nat_lit 163) (.flat ZDf.ety)])]} (fn:=Tryz.f37) Tryz.func37 (by kernel_rfl) (by kernel_rfl) ?_),
 (fun q0=>Zi Zq (Zd q0 Zl) mixed {} (fn:=Tryz.f146) Tryz.func146 (by kernel_rfl) (by kernel_rfl) ?_),
 (Zi Zq Zl mixed {loops:=[(0,[.reg 4 (.dat (.int .i64)),.ent 0 (nat_lit 2) (.flat Zxe.ety)])]} (fn:=Tryz.f93) Tryz.func93 (by kernel_rfl) (by kernel_rfl) ?_),
 (fun q0=>Zi Yv (Zd q0 Zl) mixed {loops:=[(0,[.reg 4 (.dat (.int .i64)),.ent 0 (nat_lit 66) Zlc])]} (fn:=Tryz.f34) Tryz.func34 (by kernel_rfl) (by kernel_rfl) ?_),
 (Zi Zq Zl mixed {} (fn:=Tryz.f168) Tryz.func168 (by kernel_rfl) (by kernel_rfl) ?_),
 (Zi Zq Zl mixed {} (fn:=Tryz.f263) Tryz.func263 (by kernel_rfl) (by kernel_rfl) ?_),
 (Zi Zq Zl mixed {} (fn:=Tryz.f171) Tryz.func171 (by kernel_rfl) (by kernel_rfl) ?_),
 (fun q0=>Zi Zq (Zd q0 Zl) mixed {loops:=[(0,[.reg 8 (.dat (.int .i64))])]} (fn:=Tryz.f311) Tryz.func311 (by kernel_rfl) (by kernel_rfl) ?_),
 (fun q0=>Zi Zq (Zd q0 Zl) mixed {loops:=[(0,[.reg 8 (.dat (.int .i64))])]} (fn:=Tryz.f247) Tryz.func247 (by kernel_rfl) (by kernel_rfl) ?_),
 (fun q1 q2 q4 q3 q0=>Zi Zq (Zd q1 (Zd q2 (Zd q4 (Zd q3 (Zd q0 Zl))))) mixed {loops:=[(0,[.reg 5 (.dat (.int .i64))]),(2,[.reg 7 (.dat (.int .i64))]),(5,[.reg 9 (.dat (.int .i64))])],draws:=[(13,[0,1,0,7,15,31,0,64,255,511,1023,2047,1023,8191,16383,32767,1023,66559,262143,524287,1048575,2097151,4194303,2097151,16777215,33554431,67108863,2097151,136314879,536870911,1073741823],.op 0 (.op 1 (.op 2 (.op 3 (.op 4 (.op 5 (.op 6 (.op 7 (.op 8 (.op 9 (.op 10 (.op 11 (.op 12 (.op 13 (.op 14 (.op 15 (.op 16 (.op 17 (.op 18 (.op 19 (.op 20 (.op 21 (.op 22 (.op 23 (.op 24 (.op 25 (.op 26 (.op 27 (.op 28 (.op 29 (.op 30 (.done)))))))))))))))))))))))))))))))),(25,[0,1,3,7,15,31,63,127,255,511,1023,2047,4095,511,8703,25087,57855,131071,262143,524287,1048575,2097151,4194303,8388607,16777215,33554431],.op 0 (.op 1 (.op 2 (.op 3 (.op 4 (.op 5 (.op 6 (.op 7 (.op 8 (.op 9 (.op 10 (.op 11 (.op 12 (.op 13 (.op 14 (.op 15 (.op 16 (.op 17 (.op 18 (.op 19 (.op 20 (.op 21 (.op 22 (.op 23 (.op 24 (.op 25 (.done)))))))))))))))))))))))))))]} (fn:=Tryz.f240) Tryz.func240 (by kernel_rfl) (by kernel_rfl) ?_),
 (fun q0 q1=>Zi Zq (Zd q0 (Zd q1 Zl)) mixed {loops:=[(0,[.reg 3 (.dat (.int .i64))])]} (fn:=Tryz.f316) Tryz.func316 (by kernel_rfl) (by kernel_rfl) ?_),
 (fun q0=>Zi Zq (Zd q0 Zl) mixed {loops:=[(0,[.reg 3 (.dat (.int .i64))])],draws:=[(4,[0,0,3,7,15,31,63,127,255,511,1023,1023,3071,8191,16383,1023,1023,99327,230399,524287,1048575,2097151],.op 0 (.op 1 (.op 2 (.op 3 (.alt 4 (.op 5 (.op 6 (.op 7 (.op 8 (.op 9 (.op 10 (.op 11 (.op 12 (.op 13 (.op 14 (.op 15 (.op 16 (.op 17 (.op 18 (.op 19 (.op 20 (.op 21 (.done)))))))))))))))))) (.done))))))]} (fn:=Tryz.f326) Tryz.func326 (by kernel_rfl) (by kernel_rfl) ?_),
 (Zi Zq Zl mixed {} (fn:=Tryz.f143) Tryz.func143 (by kernel_rfl) (by kernel_rfl) ?_),
 (Zi Zq Zl mixed {loops:=[(0,[.reg 3 (.dat (.int .i64))])]} (fn:=Tryz.f131) Tryz.func131 (by kernel_rfl) (by kernel_rfl) ?_),
 (fun q0 q1=>Zi Zq (Zd q0 (Zd q1 Zl)) mixed {loops:=[(0,[.reg 5 (.dat (.int .i64)),.reg 6 (.dat (.int .i64))]),(2,[.reg 8 (.dat (.int .i64))])],draws:=[(12,[0,1,0,7,15,31,0,64,255],.op 0 (.op 1 (.op 2 (.op 3 (.op 4 (.op 5 (.op 6 (.op 7 (.op 8 (.done))))))))))]} (fn:=Tryz.f272) Tryz.func272 (by kernel_rfl) (by kernel_rfl) ?_),
 (fun q0=>Zi Zq (Zd q0 Zl) mixed {loops:=[(0,[.reg 3 (.dat (.int .i64))]),(2,[.reg 4 (.dat (.int .i64))])],draws:=[(9,[0,0,3,7,0,0,48,112,255],.op 0 (.op 1 (.op 2 (.op 3 (.op 4 (.op 5 (.op 6 (.op 7 (.op 8 (.done))))))))))]} (fn:=Tryz.f192) Tryz.func192 (by kernel_rfl) (by kernel_rfl) ?_),
 (fun q0=>Zi Zq (Zd q0 Zl) mixed {loops:=[(0,[.reg 5 (.own (.ol 2 (.flat (.int .i64)))),.reg 7 (.dat (.int .i64))])]} (fn:=Tryz.f127) Tryz.func127 (by kernel_rfl) (by kernel_rfl) ?_),
 (fun q0 q1=>Zi Zq (Zd q0 (Zd q1 Zl)) mixed {draws:=[(9,[0,1,0,4,15,31,63,127,63,319,1023,2047,4095,8191,16383,8191,40959,8191,139263,499711,1023999,2072575,4169727,8364031,16777215,33554431,67108863],.op 0 (.op 1 (.op 2 (.op 3 (.alt 4 (.op 5 (.op 6 (.op 7 (.op 8 (.op 9 (.alt 10 (.op 11 (.op 12 (.op 13 (.op 14 (.op 15 (.op 16 (.op 17 (.op 18 (.op 19 (.op 20 (.op 21 (.op 22 (.op 23 (.alt 24 (.op 25 (.op 26 (.done))) (.done))))))))))))))) (.done))))))) (.done))))))]} (fn:=Tryz.f73) Tryz.func73 (by kernel_rfl) (by kernel_rfl) ?_),
 (fun q1 q3 q2 q6 q0 q4 q7 q5 q8=>Zi Zq (Zd q1 (Zd q3 (Zd q2 (Zd q6 (Zd q0 (Zd q4 (Zd q7 (Zd q5 (Zd q8 Zl))))))))) mixed {draws:=[(5,[0,1,3,7,15,31,63,127,255,511,1023,255,2303,6399,255,16639,63743,129279,260351,524287,1048575,255,2097407,6291711,255,16777471,65011967,132120831,268435455,536870911,1073741823],.op 0 (.op 1 (.op 2 (.op 3 (.op 4 (.op 5 (.op 6 (.op 7 (.op 8 (.op 9 (.op 10 (.op 11 (.op 12 (.op 13 (.op 14 (.op 15 (.op 16 (.op 17 (.op 18 (.op 19 (.op 20 (.op 21 (.op 22 (.op 23 (.op 24 (.op 25 (.op 26 (.op 27 (.alt 28 (.op 29 (.op 30 (.done))) (.done)))))))))))))))))))))))))))))),(11,[0,0,2,7,15,31,63,127,255,255,767,2047,4095,8191,255,16639,65535,131071,262143],.op 0 (.op 1 (.op 2 (.op 3 (.op 4 (.op 5 (.op 6 (.op 7 (.op 8 (.op 9 (.op 10 (.op 11 (.op 12 (.op 13 (.op 14 (.op 15 (.op 16 (.op 17 (.op 18 (.done)))))))))))))))))))),(12,[0,1,0,4,0,16,60,124,255,511],.op 0 (.op 1 (.op 2 (.op 3 (.op 4 (.op 5 (.alt 6 (.op 7 (.alt 8 (.op 9 (.done)) (.done))) (.done))))))))]} (fn:=Tryz.f74) Tryz.func74 (by kernel_rfl) (by kernel_rfl) ?_),
 (fun q0 q2 q1=>Zi Zq (Zd q0 (Zd q2 (Zd q1 Zl))) mixed {loops:=[(0,[.reg 10 (.dat (.int .i64))])],draws:=[(6,[0,1,0,4,12,31,63,127,255,511,1023,2047,2047,6143,16383,32767,65535,2047,133119,524287,1048575,2097151,4194303,8388607,16777215,8388607,41943039,109051903,243269631,536870911,1073741823,2147483647],.op 0 (.op 1 (.op 2 (.op 3 (.op 4 (.alt 5 (.op 6 (.op 7 (.op 8 (.op 9 (.op 10 (.op 11 (.op 12 (.op 13 (.op 14 (.op 15 (.op 16 (.op 17 (.op 18 (.op 19 (.op 20 (.op 21 (.op 22 (.op 23 (.op 24 (.op 25 (.op 26 (.op 27 (.op 28 (.alt 29 (.op 30 (.op 31 (.done))) (.done))))))))))))))))))))))))) (.done)))))))]} (fn:=Tryz.f79) Tryz.func79 (by kernel_rfl) (by kernel_rfl) ?_)⟩
 all_goals
  intro a
  repeat rcases a with ⟨_,a⟩
  rintro K ⟨r,h,hK⟩
  repeat'
    conv=>whnf
    first
    | with_reducible refine ZwB ?_
    | with_reducible refine ZfW (by assumption) (by assumption) (by assumption) ?_
    | with_reducible refine Vd (by assumption) ?_
    | with_reducible refine Zf1 (by assumption) ?_
    | (with_reducible refine shD ?_);first | refine Zo7 h (fun h=>?_) (fun h=>?_) | refine ZuW h (fun h=>?_) (fun h=>?_)
    | (with_reducible refine Zxc ?_);first | refine ZxD ?_ | refine Zng ?_
    | (with_reducible refine ZCb ?_);first | refine ZtV h (fun h=>?_) (fun h=>?_) | refine Zxf h (fun h=>?_) (fun h=>?_)
    | (with_reducible refine ZwQ ?_);(refine ⟨fun hd=>?_,?_⟩)<;>try subst hd
    | (with_reducible refine ZCj ?_);first | with_reducible refine ZbB h (fun x hb h=>?_) | refine Zf1 (by assumption) ?_ | with_reducible refine pG h (fun hp h=>?_) | with_reducible refine pA h (fun x ha hb hx h=>?_) | with_reducible refine pB h (fun x hb h=>?_) | refine ZbB h (fun x hb h=>?_)
    | (with_reducible refine ZB5 ?_);first | with_reducible refine vAt h (fun x ha hb hx h=>?_) | refine ZfW (by assumption) (by assumption) (by assumption) ?_ | with_reducible refine pG h (fun hp h=>?_) | with_reducible refine pA h (fun x ha hb hx h=>?_) | with_reducible refine pB h (fun x hb h=>?_) | refine vAt h (fun x ha hb hx h=>?_)
    | (with_reducible refine Zxa ?_);first | with_reducible refine ZpJ h (fun x hb h=>?_) | refine Vd (by assumption) ?_ | with_reducible refine pG h (fun hp h=>?_) | with_reducible refine pA h (fun x ha hb hx h=>?_) | with_reducible refine pB h (fun x hb h=>?_) | refine ZpJ h (fun x hb h=>?_)
    | with_reducible refine ZB7 ?_
    | (with_reducible refine Zsj ?_);refine ZrZ h hK ?_;clear h hK;intro I μ v r h hK;(repeat rcases v with ⟨_,v⟩);(try dsimp only at h)
    | with_reducible refine ⟨by assumption,?_⟩
    | with_reducible refine orL ?_
    | with_reducible refine .inr ?_
    | (with_reducible refine Zxb ?_);first | refine ⟨?_,True.intro⟩ | refine ⟨?_,?_⟩
    | refine ⟨by kernel_rfl,?_⟩
    | refine ⟨by decide,?_⟩
    | with_reducible refine Zrq h (fun hp h=>?_)
    | intro fp
    | exact trivial
    | with_reducible exact Zw1 h
    | (refine pS h (fun e=>?_));subst e;(repeat (first | exact hK | exact ⟨⟨rfl,rfl⟩,hK.1 _ rfl⟩ | (refine pR hK (fun e hK=>?_));subst e));done
    | refine Zrq h (fun hp h=>?_)
    | refine ⟨by assumption,?_⟩
    | with_reducible refine pG h (fun hp h=>?_) | with_reducible refine pA h (fun x ha hb hx h=>?_) | with_reducible refine pB h (fun x hb h=>?_)
    | refine pG h (fun hp h=>?_)
    | fail
theorem ZrC (rec0:(List Zf)→Int→Option ZfH) (hrec:Zc Tryz.prog 258 (Zfg rec0)):Zc Tryz.prog 258 (Zfg (Zbf rec0)):=by
 refine Zi Zq (Zd hrec Zl) mixed {} (fn:=Tryz.f258) Tryz.func258 (by kernel_rfl) (by kernel_rfl) ?_
 rintro ⟨list0,k0,⟨⟩⟩ K ⟨r,h,hK⟩
 change Zbf rec0 list0 k0=some r at h
 unfold Zbf at h
 conv=>whnf
 refine vAt h (fun x0 he0a he0b he0x h=>?_)
 conv=>whnf
 refine Zo7 h (fun h=>?_) (fun h=>?_)
 conv=>whnf
 cases h
 exact hK
 conv=>whnf
 refine ZbB h (fun r0 hb1 h=>?_)
 conv=>whnf
 refine Zo7 h (fun h=>?_) (fun h=>?_)
 conv=>whnf
 refine ⟨by decide,?_⟩
 conv=>whnf
 refine ZtV h (fun h=>?_) (fun h=>?_)
 conv=>whnf
 cases h
 exact hK
 conv=>whnf
 cases h
 exact hK
 conv=>whnf
 refine ZtV h (fun h=>?_) (fun h=>?_)
 conv=>whnf
 cases h
 exact hK
 conv=>whnf
 cases h
 exact hK
theorem ZI2:Zc Tryz.prog 258 ZFe:=by
 have hn:∀ n,Zc Tryz.prog 258 (Zfg (ZaV n)):=by
  intro n
  induction n with
  | zero =>
  refine Zi Zq Zl mixed {} (fn:=Tryz.f258) Tryz.func258 (by kernel_rfl) (by kernel_rfl) ?_
  rintro ⟨list0,k0,⟨⟩⟩ K ⟨r,h,hK⟩
  cases h
  | succ n ih=>exact ZrC _ ih
 refine ⟨(hn 0).1,?_⟩
 rintro w S vs ⟨list0,k0,⟨⟩⟩ fp K h1 h2 h3 h4 ⟨r,h,hK⟩
 obtain ⟨n,hr⟩:=Zup h
 exact (hn n).2 w S vs _ fp K h1 h2 h3 h4 ⟨r,hr,hK⟩
end Go.Proofs.YtoefbkmllkpkkaaGreatDoor
