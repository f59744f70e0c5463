/-
  The functions keep their contracts, if what they call does. Printed by program.
-/
import Derived.Test.YtnnbgbgapogckaaGreatDoorM
import Derived.KernelRfl
namespace Go.Proofs.YtnnbgbgapogckaaGreatDoor
open Go Go.Sx
set_option maxRecDepth 100000
set_option maxHeartbeats 6400000
set_option linter.unusedVariables false
set_option linter.unusedSimpArgs false
structure Ws3:Prop where
 w96:Sq 275 c92→Sq 276 c95→Sq 251 c96
 w87:Sq 310 c87
 w101:Sq 278 c90→Sq 109 c78→Sq 279 ZAT→Sq 252 ZAU
 w104:Sq 188 c71→Sq 154 ZAX
 w111:Sq 209 c105→Sq 159 c66→Sq 189 ZAZ→Sq 155 ZA0
 w149:Sq 83 c116→Sq 192 ZAB
 w156:Sq 83 c116→Sq 116 c130→Sq 118 c152→Sq 143 ZBl→Sq 119 c148→Sq 122 ZBa→Sq 76 c156
 w118:Sq 158 c74→Sq 159 c66→Sq 160 c117→Sq 109 c78→Sq 84 Zy7
 w160:Sq 31 c119→Sq 116 c130→Sq 81 ZBk→Sq 76 c156→Sq 58 c159→Sq 165 ZDo→Sq 90 c160
 w71:Sq 212 c67→Sq 230 c70→Sq 188 c71
 w72:Sq 159 c66→Sq 274 c68→Sq 188 c71→Sq 250 c72
 w86:Sq 305 c85→Sq 293 c86
 w78:Sq 189 c77→Sq 109 c78
 w75:Sq 159 c66→Sq 190 c75
 w80:Sq 158 c74→Sq 159 c66→Sq 109 c78→Sq 133 c79→Sq 324 c80
 w79:Sq 133 c79
 w67:Sq 159 c66→Sq 245 ZaX→Sq 246 V9→Sq 212 c67
 w105:Sq 209 c105
 w157:Sq 170 c157
 w134:Sq 242 ZBc→Sq 207 ZBd
 w0:Sq 9 c0
 w167:Sq 26 ZBp→Sq 85 c167
 w168:Sq 26 ZBp→Sq 86 c168
 w125:Sq 235 ZA7
 w121:Sq 134 ZAL
 w126:Sq 236 ZA8
 w95:Sq 296 c94→Sq 276 c95
 w94:Sq 277 c93→Sq 296 c94
 w142:Sq 248 c141→Sq 247 ZBi
 w63:Sq 29 c49→Sq 94 c62→Sq 39 c63
 w43:Sq 148 c43
 w35:Sq 95 c33→Sq 139 c14→Sq 144 c34→Sq 77 c35
 w29:Sq 260 c22→Sq 147 c20→Sq 114 c21→Sq 261 c27→Sq 262 c28→Sq 223 c29
 w30:Sq 223 c29→Sq 176 c30
 w21:Sq 114 c21
 w28:Sq 262 c28
 w22:Sq 147 c20→Sq 114 c21→Sq 260 c22
 w26:Sq 300 c25→Sq 285 c26
 w12:Sq 44 c2→Sq 163 c11→Sq 198 c12
 w54:Sq 161 c16→Sq 167 c54
 w31:Sq 114 c21→Sq 177 c31
 w17:Sq 44 c2→Sq 219 c15→Sq 161 c16→Sq 164 c17
 w15:Sq 219 c15
 w39:Sq 78 c39
set_option maxHeartbeats 100000000 in
theorem ws3:Ws3:=by
 refine ⟨(fun q1 q0=>Zm ZL (Zg q1 (Zg q0 Zu)) mixed {loops:=[(0,[.reg 8 (.dat Iq)])]} Tryz.func251 (hvc:=?_)),
 (Zm ZL Zu mixed {} Tryz.func310 (hvc:=?_)),
 (fun q0 q1 q2=>Zm ZL (Zg q0 (Zg q1 (Zg q2 Zu))) mixed {loops:=[(0,[.reg 3 (.dat Iq),.reg 9 (.dat Iq)])],draws:=[(10,[0,1,3,7,15,31,7,71,199,511,1023,2047,4095,8191,16383,32767,65535],.op 0 (.op 1 (.op 2 (.op 3 (.op 4 (.op 5 (.op 6 (.alt 7 (.op 8 (.op 9 (.op 10 (.op 11 (.op 12 (.op 13 (.alt 14 (.op 15 (.op 16 (.done))) (.done)))))))) (.done))))))))),(12,[0,1,3,7,15,31,63,127,255,511,1023,2047,4095,8191,16383,32767,16383,131071,262143,524287,1048575],.op 0 (.op 1 (.op 2 (.op 3 (.op 4 (.op 5 (.op 6 (.op 7 (.op 8 (.op 9 (.alt 10 (.op 11 (.op 12 (.op 13 (.op 14 (.op 16 (.alt 15 (.alt 17 (.op 18 (.op 19 (.op 20 (.done)))) (.done)) (.done))))))) (.done))))))))))))]} Tryz.func252 (hvc:=?_)),
 (fun q0=>Zm ZL (Zg q0 Zu) mixed {loops:=[(0,[.reg 3 (.own (.ol 9 (.flat (.str)))),.reg 12 (.dat Iq)]),(2,[.reg 4 (.own (.ol 9 (.flat (.str)))),.reg 25 (.dat Iq)])]} Tryz.func154 (hvc:=?_)),
 (fun q1 q2 q0=>Zm ZL (Zg q1 (Zg q2 (Zg q0 Zu))) mixed {draws:=[(1,[0,1,0,4,12,28,63,127,255,511,1023,255,2303,255,8447,30975,63743,129279,260351,524287,1048575,2097151,4194303,8388607,4194303,33554431,67108863,134217727,268435455],.op 0 (.op 1 (.op 2 (.op 3 (.alt 4 (.op 5 (.alt 6 (.op 7 (.op 8 (.op 9 (.op 10 (.op 11 (.op 12 (.op 13 (.op 14 (.op 15 (.op 16 (.op 17 (.op 18 (.op 19 (.op 20 (.op 21 (.op 22 (.op 23 (.op 24 (.alt 25 (.op 26 (.op 27 (.op 28 (.done)))) (.done)))))))))))))))))))) (.done))) (.done))))))]} Tryz.func155 (hvc:=?_)),
 (fun q0=>Zm ZL (Zg q0 Zu) mixed {loops:=[(0,[.reg 5 (.own (.ol 2 (.flat Iq))),.reg 11 (.dat Iq)])]} Tryz.func192 (hvc:=?_)),
 (fun q2 q4 q0 q1 q3 q5=>Zm ZL (Zg q2 (Zg q4 (Zg q0 (Zg q1 (Zg q3 (Zg q5 Zu)))))) mixed {draws:=[(4,[0,1,0,4,0,16,0,64,240,496,1008,2044,4092,8188,16383,32767],.op 0 (.op 1 (.op 2 (.op 3 (.op 4 (.op 6 (.op 7 (.alt 5 (.op 8 (.op 9 (.op 10 (.op 11 (.op 12 (.op 13 (.op 14 (.alt 15 (.done) (.done))))))))) (.done))))))))),(11,[0,1,0,4,0,16,63,0,128,0,512,2047,4095],.op 0 (.op 1 (.op 2 (.op 3 (.op 4 (.op 5 (.op 7 (.op 8 (.op 9 (.op 10 (.alt 6 (.op 11 (.alt 12 (.done) (.done))) (.done)))))))))))),(13,[0,1,0,4,15,31,0,127],.op 0 (.op 2 (.op 3 (.alt 1 (.op 4 (.op 5 (.alt 6 (.alt 7 (.done) (.done)) (.done)))) (.alt 6 (.alt 1 (.op 4 (.op 5 (.alt 7 (.done) (.done)))) (.done)) (.done)))))),(14,[0,1,0,4,0,16,0,64,0,256,960,2032,4095,8191],.op 0 (.op 2 (.op 4 (.op 6 (.op 7 (.op 8 (.op 9 (.op 10 (.alt 1 (.alt 3 (.alt 5 (.alt 11 (.op 12 (.alt 13 (.done) (.done))) (.done)) (.done)) (.alt 5 (.alt 3 (.alt 11 (.op 12 (.alt 13 (.done) (.done))) (.done)) (.alt 11 (.alt 3 (.op 12 (.alt 13 (.done) (.done))) (.done)) (.done))) (.done))) (.alt 3 (.alt 1 (.alt 5 (.alt 11 (.op 12 (.alt 13 (.done) (.done))) (.done)) (.done)) (.alt 5 (.alt 1 (.alt 11 (.op 12 (.alt 13 (.done) (.done))) (.done)) (.alt 11 (.alt 1 (.op 12 (.alt 13 (.done) (.done))) (.done)) (.done))) (.done))) (.alt 5 (.alt 1 (.alt 3 (.alt 11 (.op 12 (.alt 13 (.done) (.done))) (.done)) (.alt 11 (.alt 3 (.op 12 (.alt 13 (.done) (.done))) (.done)) (.done))) (.alt 3 (.alt 1 (.alt 11 (.op 12 (.alt 13 (.done) (.done))) (.done)) (.alt 11 (.alt 1 (.op 12 (.alt 13 (.done) (.done))) (.done)) (.done))) (.alt 11 (.alt 1 (.alt 3 (.op 12 (.alt 13 (.done) (.done))) (.done)) (.alt 3 (.alt 1 (.op 12 (.alt 13 (.done) (.done))) (.done)) (.done))) (.done)))) (.done)))))))))))),(15,[0,1,0,4,0,16,60,124,252,511,1023],.op 0 (.op 1 (.op 2 (.op 3 (.op 4 (.op 5 (.op 6 (.op 7 (.alt 8 (.op 9 (.alt 10 (.done) (.done))) (.done))))))))))]} Tryz.func76 (hvc:=?_)),
 (fun q0 q3 q1 q2=>Zm ZL (Zg q0 (Zg q3 (Zg q1 (Zg q2 Zu)))) mixed {} Tryz.func84 (hvc:=?_)),
 (fun q4 q1 q3 q0 q2 q5=>Zm VX (Zg q4 (Zg q1 (Zg q3 (Zg q0 (Zg q2 (Zg q5 Zu)))))) mixed {loops:=[(1,[.reg 9 (.own (.ol 62 (ZoH))),.reg 27 (.dat Iq),.cello 1 0 (.ol 216 (ZiT)),.cello 1 1 (.ol 193 (Zbr)),.cello 1 2 (.ol 9 (.flat (.str))),.cello 1 3 (.ol 237 (.flat (ZkZ))),.cello 1 4 (.ol 58 (ZgI)),.cello 7 0 (.ol (nat_lit 216) (Dp.pair (Dp.flat Ty.str) (Dp.pair (Dp.flat (Ty.int IntKind.i64)) (Dp.pair (Dp.ol (255:Go.TypeId) (Dp.flat Zl9)) (Dp.pair (Dp.ol (219:Go.TypeId) ZmF) (Dp.pair (Dp.ol (2:Go.TypeId) (Dp.flat (Ty.int IntKind.i64))) (Dp.pair (Dp.flat (Ty.int IntKind.i64)) (Dp.pair (Dp.flat (Ty.int IntKind.i64)) (Dp.flat Ty.unit))))))))),.cello 7 1 (.ol (nat_lit 193) (Dp.pair (Dp.flat Ty.str) (Dp.pair (Dp.flat (Ty.int IntKind.i64)) (Dp.pair (Dp.ol (2:Go.TypeId) (Dp.flat (Ty.int IntKind.i64))) (Dp.flat Ty.unit))))),.cello 7 2 (.ol (nat_lit 9) (.flat Ty.str)),.cello 7 3 (.ol (nat_lit 237) (.flat ZkZ)),.cello 7 4 (.ol (nat_lit 58) (Dp.pair (Dp.ol (2:Go.TypeId) (Dp.flat (Ty.int IntKind.i64))) (Dp.pair (Dp.ol (2:Go.TypeId) (Dp.flat (Ty.int IntKind.i64))) (Dp.pair (Dp.ol (2:Go.TypeId) (Dp.flat (Ty.int IntKind.i64))) (Dp.pair (Dp.ol (2:Go.TypeId) (Dp.flat (Ty.int IntKind.i64))) (Dp.flat Ty.unit))))))])]} Tryz.func90 (hvc:=?_)),
 (fun q1 q0=>Zm ZL (Zg q1 (Zg q0 Zu)) mixed {loops:=[(0,[.reg 7 (.dat Iq)])]} Tryz.func188 (hvc:=?_)),
 (fun q2 q0 q1=>Zm ZL (Zg q2 (Zg q0 (Zg q1 Zu))) mixed {loops:=[(0,[.reg 3 (.own (.ol 9 (.flat (.str)))),.reg 8 (.dat Iq)])]} Tryz.func250 (hvc:=?_)),
 (fun q0=>Zm ZL (Zg q0 Zu) mixed {} Tryz.func293 (hvc:=?_)),
 (fun q0=>Zm ZL (Zg q0 Zu) mixed {} Tryz.func109 (hvc:=?_)),
 (fun q0=>Zm ZL (Zg q0 Zu) mixed {} Tryz.func190 (hvc:=?_)),
 (fun q0 q3 q2 q1=>Zm ZL (Zg q0 (Zg q3 (Zg q2 (Zg q1 Zu)))) mixed {} Tryz.func324 (hvc:=?_)),
 (Zm ZL Zu mixed {loops:=[(0,[.reg 3 (.dat Iq)])],draws:=[(4,[0,0,2,7,15,0,0,96,224,511],.op 0 (.op 1 (.op 2 (.op 3 (.op 4 (.op 5 (.op 6 (.op 7 (.op 8 (.op 9 (.done)))))))))))]} Tryz.func133 (hvc:=?_)),
 (fun q2 q1 q0=>Zm ZL (Zg q2 (Zg q1 (Zg q0 Zu))) mixed {} Tryz.func212 (hvc:=?_)),
 (Zm ZL Zu mixed {} Tryz.func209 (hvc:=?_)),
 (Zm ZL Zu mixed {} Tryz.func170 (hvc:=?_)),
 (fun q0=>Zm ZL (Zg q0 Zu) mixed {} Tryz.func207 (hvc:=?_)),
 (Zm ZL Zu mixed {} Tryz.func9 (hvc:=?_)),
 (fun q0=>Zm ZL (Zg q0 Zu) mixed {loops:=[(0,[.reg 5 (.dat Iq)]),(2,[.reg 6 (.dat Iq)]),(4,[.reg 7 (.dat Iq)])],draws:=[(6,[0,1,0,7,15,31,0,64,0,448,960,1984,4095,8191,16383,32767,16383,131071,262143,524287,16383,1064959,16383,7356415,15745023,32522239,67108863,134217727,268435455,536870911,1073741823,536870911,4294967295,8589934591,17179869183,536870911,34896609279,536870911,241055039487,515932946431,1065688760319,2199023255551,4398046511103,8796093022207],.op 0 (.op 1 (.op 2 (.op 3 (.op 4 (.op 5 (.op 6 (.op 7 (.op 8 (.op 9 (.op 10 (.op 11 (.op 12 (.op 13 (.op 14 (.op 15 (.op 16 (.op 17 (.op 18 (.op 19 (.op 20 (.op 21 (.op 22 (.op 23 (.op 24 (.op 25 (.op 26 (.op 27 (.op 28 (.op 29 (.op 30 (.op 31 (.op 32 (.op 33 (.op 34 (.op 35 (.op 36 (.op 37 (.op 38 (.op 39 (.op 40 (.alt 41 (.op 42 (.op 43 (.done))) (.done))))))))))))))))))))))))))))))))))))))))))),(11,[0,1,0,7,15,0,32,0,224,480,1023],.op 0 (.op 1 (.op 2 (.op 3 (.op 4 (.op 5 (.op 6 (.op 7 (.op 8 (.op 9 (.op 10 (.done)))))))))))),(16,[0,1,0,7,15,0,32,0,224,480,1023],.op 0 (.op 1 (.op 2 (.op 3 (.op 4 (.op 5 (.op 6 (.op 7 (.op 8 (.op 9 (.op 10 (.done))))))))))))]} Tryz.func85 (hvc:=?_)),
 (fun q0=>Zm ZL (Zg q0 Zu) mixed {} Tryz.func86 (hvc:=?_)),
 (Zm ZL Zu mixed {} Tryz.func235 (hvc:=?_)),
 (Zm ZL Zu mixed {} Tryz.func134 (hvc:=?_)),
 (Zm ZL Zu mixed {} Tryz.func236 (hvc:=?_)),
 (fun q0=>Zm ZL (Zg q0 Zu) mixed {} Tryz.func276 (hvc:=?_)),
 (fun q0=>Zm ZL (Zg q0 Zu) mixed {loops:=[(0,[.reg 8 (.dat Iq)])]} Tryz.func296 (hvc:=?_)),
 (fun q0=>Zm ZL (Zg q0 Zu) mixed {loops:=[(0,[.reg 8 (.dat Iq)])]} Tryz.func247 (hvc:=?_)),
 (fun q0 q1=>Zm VX (Zg q0 (Zg q1 Zu)) mixed {} Tryz.func39 (hvc:=?_)),
 (Zm ZL Zu mixed {loops:=[(0,[.reg 5 (.dat Iq)])]} Tryz.func148 (hvc:=?_)),
 (fun q0 q1 q2=>Zm ZL (Zg q0 (Zg q1 (Zg q2 Zu))) mixed {loops:=[(0,[.reg 3 (.dat Iq)])],draws:=[(6,[0,1,0,7,15,0,32,0,224,480,1023,2047],.op 0 (.op 1 (.op 2 (.op 3 (.op 4 (.op 5 (.op 6 (.op 7 (.alt 8 (.op 9 (.alt 10 (.op 11 (.done)) (.done))) (.done))))))))))]} Tryz.func77 (hvc:=?_)),
 (fun q1 q2 q4 q3 q0=>Zm ZL (Zg q1 (Zg q2 (Zg q4 (Zg q3 (Zg q0 Zu))))) mixed {loops:=[(0,[.reg 5 (.dat Iq)]),(2,[.reg 7 (.dat Iq)]),(5,[.reg 9 (.dat Iq)])],draws:=[(13,[0,1,0,7,15,31,0,64,255,511,1023,2047,1023,8191,16383,32767,1023,66559,262143,524287,1048575,2097151,4194303,2097151,16777215,33554431,67108863,2097151,136314879,536870911,1073741823],.op 0 (.op 1 (.op 2 (.op 3 (.op 4 (.op 5 (.op 6 (.op 7 (.op 8 (.op 9 (.op 10 (.op 11 (.op 12 (.op 13 (.op 14 (.op 15 (.op 16 (.op 17 (.op 18 (.op 19 (.op 20 (.op 21 (.op 22 (.op 23 (.op 24 (.op 25 (.op 26 (.op 27 (.op 28 (.op 29 (.op 30 (.done)))))))))))))))))))))))))))))))),(25,[0,1,3,7,15,31,63,127,255,511,1023,2047,4095,511,8703,25087,57855,131071,262143,524287,1048575,2097151,4194303,8388607,16777215,33554431],.op 0 (.op 1 (.op 2 (.op 3 (.op 4 (.op 5 (.op 6 (.op 7 (.op 8 (.op 9 (.op 10 (.op 11 (.op 12 (.op 13 (.op 14 (.op 15 (.op 16 (.op 17 (.op 18 (.op 19 (.op 20 (.op 21 (.op 22 (.op 23 (.op 24 (.op 25 (.done)))))))))))))))))))))))))))]} Tryz.func223 (hvc:=?_)),
 (fun q0=>Zm ZL (Zg q0 Zu) mixed {loops:=[(0,[.reg 3 (.dat Iq)]),(2,[.reg 4 (.dat Iq)])],draws:=[(9,[0,1,0,7,15,31,0,64,0,448,960,1984,4095],.op 0 (.op 1 (.op 2 (.op 3 (.op 4 (.op 5 (.op 6 (.op 7 (.op 8 (.op 9 (.op 10 (.op 11 (.op 12 (.done))))))))))))))]} Tryz.func176 (hvc:=?_)),
 (Zm ZL Zu mixed {} Tryz.func114 (hvc:=?_)),
 (Zm ZL Zu mixed {loops:=[(0,[.reg 4 (.dat Iq),.ent 1 (nat_lit 2) (.flat Znz.ety)])]} Tryz.func262 (hvc:=?_)),
 (fun q0 q1=>Zm ZL (Zg q0 (Zg q1 Zu)) mixed {loops:=[(0,[.reg 5 (.dat Iq),.reg 6 (.dat Iq)]),(2,[.reg 8 (.dat Iq)])],draws:=[(12,[0,1,0,7,15,31,0,64,255],.op 0 (.op 1 (.op 2 (.op 3 (.op 4 (.op 5 (.op 6 (.op 7 (.op 8 (.done))))))))))]} Tryz.func260 (hvc:=?_)),
 (fun q0=>Zm ZL (Zg q0 Zu) mixed {loops:=[(0,[.reg 5 (.dat Iq)])]} Tryz.func285 (hvc:=?_)),
 (fun q1 q0=>Zm VX (Zg q1 (Zg q0 Zu)) mixed {loops:=[(0,[.reg 9 (.own (.ol 193 (Zbr))),.reg 10 (.own (.ol 9 (.flat (.str)))),.reg 11 (.dat Iq),.cell 1000 0 (.sl (.int .u8)),.cell 1000 1 Iq,.cell 1000 2 Iq]),(2,[.reg 14 (.dat Iq),.cell 1000 0 (.sl (.int .u8)),.cell 1000 1 Iq,.cell 1000 2 Iq,.cello 1013 2 (.ol 2 (.flat Iq))]),(4,[.reg 16 (.dat Iq),.cell 1000 0 (.sl (.int .u8)),.cell 1000 1 Iq,.cell 1000 2 Iq,.ent 9 (nat_lit 193) (Dp.pair (Dp.flat Ty.str) (Dp.pair (Dp.flat (Ty.int IntKind.i64)) (Dp.pair (Dp.ol (2:Go.TypeId) (Dp.flat (Ty.int IntKind.i64))) (Dp.flat Ty.unit))))])],draws:=[(27,[0,0,3,7,15,0,0,64,192,480,992,2047,4095],.op 0 (.op 1 (.op 2 (.op 3 (.op 5 (.op 6 (.op 7 (.op 8 (.alt 4 (.alt 9 (.op 10 (.op 11 (.alt 12 (.done) (.done)))) (.done)) (.alt 9 (.op 10 (.alt 4 (.op 11 (.alt 12 (.done) (.done))) (.done))) (.done)))))))))))]} Tryz.func198 (hvc:=?_)),
 (fun q0=>Zm VX (Zg q0 Zu) mixed {loops:=[(0,[.reg 4 (.dat Iq),.cello 1003 0 (.ol 193 (Zbr))])],draws:=[(1,[0,0,2,7,0,0,32,127,255,0,1023],.op 1 (.op 2 (.op 5 (.ld 6 (.alt 0 (.alt 3 (.alt 4 (.alt 7 (.op 8 (.alt 9 (.alt 10 (.done) (.done)) (.done))) (.alt 9 (.alt 7 (.op 8 (.alt 10 (.done) (.done))) (.done)) (.done))) (.alt 9 (.alt 4 (.alt 7 (.op 8 (.alt 10 (.done) (.done))) (.done)) (.done)) (.done))) (.alt 4 (.alt 3 (.alt 7 (.op 8 (.alt 9 (.alt 10 (.done) (.done)) (.done))) (.alt 9 (.alt 7 (.op 8 (.alt 10 (.done) (.done))) (.done)) (.done))) (.alt 9 (.alt 3 (.alt 7 (.op 8 (.alt 10 (.done) (.done))) (.done)) (.done)) (.done))) (.alt 9 (.alt 3 (.alt 4 (.alt 7 (.op 8 (.alt 10 (.done) (.done))) (.done)) (.done)) (.alt 4 (.alt 3 (.alt 7 (.op 8 (.alt 10 (.done) (.done))) (.done)) (.done)) (.done))) (.done)))) (.alt 4 (.alt 0 (.alt 3 (.alt 7 (.op 8 (.alt 9 (.alt 10 (.done) (.done)) (.done))) (.alt 9 (.alt 7 (.op 8 (.alt 10 (.done) (.done))) (.done)) (.done))) (.alt 9 (.alt 3 (.alt 7 (.op 8 (.alt 10 (.done) (.done))) (.done)) (.done)) (.done))) (.alt 9 (.alt 0 (.alt 3 (.alt 7 (.op 8 (.alt 10 (.done) (.done))) (.done)) (.done)) (.done)) (.done))) (.alt 9 (.alt 0 (.alt 3 (.alt 4 (.alt 7 (.op 8 (.alt 10 (.done) (.done))) (.done)) (.done)) (.alt 4 (.alt 3 (.alt 7 (.op 8 (.alt 10 (.done) (.done))) (.done)) (.done)) (.done))) (.alt 4 (.alt 0 (.alt 3 (.alt 7 (.op 8 (.alt 10 (.done) (.done))) (.done)) (.done)) (.done)) (.done))) (.done))))))))]} Tryz.func167 (hvc:=?_)),
 (fun q0=>Zm ZL (Zg q0 Zu) mixed {loops:=[(0,[.reg 6 (.dat Iq)]),(2,[.reg 8 (.dat Iq)]),(4,[.reg 9 (.dat Iq)])],draws:=[(6,[0,1,0,4,12,28,63,127,255,511,1023,2047,511,4607,511,16895,61951,127487,258559,520703,1048575,2097151],.op 0 (.op 1 (.op 2 (.op 3 (.op 4 (.op 5 (.alt 6 (.op 7 (.op 8 (.op 9 (.op 10 (.op 11 (.op 12 (.op 13 (.op 14 (.op 15 (.op 16 (.op 17 (.op 18 (.op 19 (.op 20 (.op 21 (.done)))))))))))))))) (.done))))))))]} Tryz.func177 (hvc:=?_)),
 (fun q1 q0 q2=>Zm ZL (Zg q1 (Zg q0 (Zg q2 Zu))) mixed {loops:=[(0,[.reg 6 (.dat Iq),.cell 1000 0 (.sl (.int .u8)),.cell 1000 1 Iq,.cell 1000 2 Iq,.cello 1005 0 (.ol (nat_lit 2) (.flat (Ty.int IntKind.i64))),.cello 1005 1 (.ol (nat_lit 2) (.flat (Ty.int IntKind.i64))),.cello 1005 2 (.ol (nat_lit 2) (.flat (Ty.int IntKind.i64))),.cello 1005 3 (.ol (nat_lit 2) (.flat (Ty.int IntKind.i64)))]),(2,[.reg 8 (.dat Iq),.cell 1000 0 (.sl (.int .u8)),.cell 1000 1 Iq,.cell 1000 2 Iq,.ent 10 (nat_lit 2) (.flat (Ty.int IntKind.i64))])],draws:=[(6,[0,1,3,0,0,31,63,127,0,256,1023,0,4095,8191,16383,0,32768,131071,0,524287,1048575,2097151,0,4194304,16777215,33554431],.op 0 (.op 1 (.op 3 (.op 4 (.op 8 (.op 11 (.op 15 (.op 18 (.op 22 (.ld 9 (.ld 16 (.ld 23 (.alt 2 (.alt 5 (.alt 6 (.alt 7 (.alt 10 (.alt 12 (.alt 13 (.alt 14 (.alt 17 (.alt 19 (.alt 20 (.alt 21 (.op 24 (.alt 25 (.done) (.done))) (.done)) (.done)) (.done)) (.done)) (.done)) (.done)) (.done)) (.done)) (.done)) (.done)) (.done)) (.done)))))))))))))),(10,[0,1,0,0,0,16,48,120,255,511],.op 0 (.op 2 (.op 3 (.op 4 (.op 5 (.op 6 (.ld 1 (.alt 7 (.op 8 (.alt 9 (.done) (.done))) (.done)))))))))]} Tryz.func164 (hvc:=?_)),
 (Zm ZL Zu mixed {} Tryz.func219 (hvc:=?_)),
 (Zm ZL Zu mixed {} Tryz.func78 (hvc:=?_))⟩
 all_goals
  intro a
  repeat rcases a with ⟨_,a⟩
  rintro K ⟨r,h,hK⟩
  repeat'
    conv=>whnf
    first
    | with_reducible refine ZoK ?_
    | with_reducible refine ZnK (by assumption) (by assumption) (by assumption) ?_
    | with_reducible refine Zh (by assumption) ?_
    | with_reducible refine ZnS (by assumption) ?_
    | (with_reducible refine shD ?_);first | refine ZG h (fun h=>?_) (fun h=>?_) | refine ZcV h (fun h=>?_) (fun h=>?_)
    | (with_reducible refine ZoO ?_);first | refine Zj4 ?_ | refine Yc ?_
    | (with_reducible refine Zo6 ?_);first | refine Qn h (fun h=>?_) (fun h=>?_) | refine Zmk h (fun h=>?_) (fun h=>?_)
    | (with_reducible refine ZoN ?_);(refine ⟨fun hd=>?_,?_⟩)<;>try subst hd
    | (with_reducible refine Zo8 ?_);first | with_reducible refine Ze h (fun x hb h=>?_) | refine ZnS (by assumption) ?_ | with_reducible refine pG h (fun hp h=>?_) | with_reducible refine pA h (fun x ha hb hx h=>?_) | with_reducible refine pB h (fun x hb h=>?_) | refine Ze h (fun x hb h=>?_)
    | (with_reducible refine Zo5 ?_);first | with_reducible refine vAt h (fun x ha hb hx h=>?_) | refine ZnK (by assumption) (by assumption) (by assumption) ?_ | with_reducible refine pG h (fun hp h=>?_) | with_reducible refine pA h (fun x ha hb hx h=>?_) | with_reducible refine pB h (fun x hb h=>?_) | refine vAt h (fun x ha hb hx h=>?_)
    | (with_reducible refine ZoM ?_);first | with_reducible refine ZoU h (fun x hb h=>?_) | refine Zh (by assumption) ?_ | with_reducible refine pG h (fun hp h=>?_) | with_reducible refine pA h (fun x ha hb hx h=>?_) | with_reducible refine pB h (fun x hb h=>?_) | refine ZoU h (fun x hb h=>?_)
    | with_reducible refine Zo7 ?_
    | (with_reducible refine Zot ?_);refine ZoC h hK ?_;clear h hK;intro I μ v r h hK;(repeat rcases v with ⟨_,v⟩);(try dsimp only at h)
    | with_reducible refine ⟨by assumption,?_⟩
    | with_reducible refine orL ?_
    | with_reducible refine .inr ?_
    | (with_reducible refine ZoP ?_);first | refine ⟨?_,True.intro⟩ | refine ⟨?_,?_⟩
    | refine ⟨by kernel_rfl,?_⟩
    | refine ⟨by decide,?_⟩
    | with_reducible refine Yk h (fun hp h=>?_)
    | intro fp
    | exact trivial
    | with_reducible exact ZoJ h
    | (refine pS h (fun e=>?_));subst e;(repeat (first | exact hK | exact ⟨⟨rfl,rfl⟩,hK.1 _ rfl⟩ | (refine pR hK (fun e hK=>?_));subst e));done
    | refine Yk h (fun hp h=>?_)
    | refine ⟨by assumption,?_⟩
    | with_reducible refine pG h (fun hp h=>?_) | with_reducible refine pA h (fun x ha hb hx h=>?_) | with_reducible refine pB h (fun x hb h=>?_)
    | refine pG h (fun hp h=>?_)
    | fail
end Go.Proofs.YtnnbgbgapogckaaGreatDoor
