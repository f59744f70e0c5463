/-
  The functions keep their contracts, if what they call does. Printed by program.
-/
import Derived.Test.YtoefbkmllkpkkaaGreatDoorM
import Derived.KernelRfl
namespace Go.Proofs.YtoefbkmllkpkkaaGreatDoor
open Go Go.Sx
set_option maxRecDepth 100000
set_option maxHeartbeats 3200000
set_option linter.unusedVariables false
set_option linter.unusedSimpArgs false
structure Ws5:Prop where
 w245:Zc Tryz.prog 150 Zv9→Zc Tryz.prog 180 ZC6
 w142:Zc Tryz.prog 321 c141→Zc Tryz.prog 309 ZEC
 w157:Zc Tryz.prog 223 c124→Zc Tryz.prog 200 c157
 w160:Zc Tryz.prog 234 c159→Zc Tryz.prog 205 c119→Zc Tryz.prog 202 c160
 w169:Zc Tryz.prog 150 Zv9
 w173:Zc Tryz.prog 209 c173
 w183:Zc Tryz.prog 255 c183
 w168:Zc Tryz.prog 199 c156→Zc Tryz.prog 200 c157→Zc Tryz.prog 201 c164→Zc Tryz.prog 202 c160→Zc Tryz.prog 203 c167→Zc Tryz.prog 149 c168
 w210:Zc Tryz.prog 260 ZFO→Zc Tryz.prog 225 c210
 w134:Zc Tryz.prog 328 ZGP→Zc Tryz.prog 207 c131→Zc Tryz.prog 319 ZFK
 w232:Zc Tryz.prog 173 ZFt→Zc Tryz.prog 103 c232
 w125:Zc Tryz.prog 205 c119→Zc Tryz.prog 294 ZDE→Zc Tryz.prog 223 c124→Zc Tryz.prog 277 ZFv
 w136:Zc Tryz.prog 319 ZFK→Zc Tryz.prog 320 ZFy→Zc Tryz.prog 318 ZGv
 w235:Zc Tryz.prog 171 c193→Zc Tryz.prog 265 ZEM
 w179:Zc Tryz.prog 251 ZFU
 w133:Zc Tryz.prog 155 c127→Zc Tryz.prog 205 c119→Zc Tryz.prog 207 c131→Zc Tryz.prog 229 ZDj→Zc Tryz.prog 328 ZGP
 w209:Zc Tryz.prog 205 c119→Zc Tryz.prog 260 ZFO
 w214:Zc Tryz.prog 205 c119→Zc Tryz.prog 228 ZEI
 w262:Zc Tryz.prog 269 ZFM
 w261:Zc Tryz.prog 43 ZGT→Zc Tryz.prog 44 ZEp→Zc Tryz.prog 45 ZFk→Zc Tryz.prog 46 ZFr→Zc Tryz.prog 12 ZGf
 w265:Zc Tryz.prog 305 ZFp→Zc Tryz.prog 290 ZF0
 w278:Zc Tryz.prog 50 ZDZ→Zc Tryz.prog 49 ZEm
 w285:Zc Tryz.prog 237 ZE3→Zc Tryz.prog 187 ZGK
 w283:Zc Tryz.prog 119 ZA9
 w24:Zc Tryz.prog 69 c23→Zc Tryz.prog 25 c24
 w0:Zc Tryz.prog 238 c0
 w14:Zc Tryz.prog 124 c13→Zc Tryz.prog 66 c14
 w17:Zc Tryz.prog 22 c16→Zc Tryz.prog 21 c17
 w34:Zc Tryz.prog 243 c33→Zc Tryz.prog 198 c34
 w35:Zc Tryz.prog 197 c29→Zc Tryz.prog 198 c34→Zc Tryz.prog 93 c30→Zc Tryz.prog 145 c35
 w49:Zc Tryz.prog 94 c48→Zc Tryz.prog 36 c49
 w53:Zc Tryz.prog 93 c30→Zc Tryz.prog 96 c53
 w37:Zc Tryz.prog 89 c36→Zc Tryz.prog 32 c37
 w28:Zc Tryz.prog 242 c28
 w237:Zc Tryz.prog 266 ZEO
 w184:Zc Tryz.prog 255 c183→Zc Tryz.prog 254 ZEZ
 w162:Zc Tryz.prog 246 ZE1→Zc Tryz.prog 280 c162
 w135:Zc Tryz.prog 320 ZFy
 w71:Zc Tryz.prog 190 c68→Zc Tryz.prog 191 c69→Zc Tryz.prog 192 c70→Zc Tryz.prog 125 c71
 w98:Zc Tryz.prog 71 c75→Zc Tryz.prog 75 c90→Zc Tryz.prog 76 c92→Zc Tryz.prog 77 c72→Zc Tryz.prog 78 c95→Zc Tryz.prog 79 c97→Zc Tryz.prog 28 c98
 w59:Zc Tryz.prog 128 c59
 w105:Zc Tryz.prog 275 ZGU→Zc Tryz.prog 241 c105
 w72:Zc Tryz.prog 77 c72
 w113:Zc Tryz.prog 144 ZEv
 w78:Zc Tryz.prog 129 c78
 w112:Zc Tryz.prog 86 ZDc
 w84:Zc Tryz.prog 130 c79→Zc Tryz.prog 127 c73→Zc Tryz.prog 194 c83→Zc Tryz.prog 134 c84
 w116:Zc Tryz.prog 85 ZDa→Zc Tryz.prog 127 c73→Zc Tryz.prog 77 c72→Zc Tryz.prog 86 ZDc→Zc Tryz.prog 143 ZBh→Zc Tryz.prog 87 ZCJ→Zc Tryz.prog 84 c116
 w96:Zc Tryz.prog 140 c96
 w92:Zc Tryz.prog 138 c91→Zc Tryz.prog 76 c92
set_option maxHeartbeats 100000000 in
theorem ws5:Ws5:=by
 refine ⟨(fun q0=>Zi Yv (Zd q0 Zl) mixed {loops:=[(0,[.reg 13 (.dat (.int .i64)),.ent 4 (nat_lit 66) (Dp.pair (Dp.ol (2:Go.TypeId) (Dp.flat (Ty.int IntKind.i64))) (Dp.pair (Dp.ol (2:Go.TypeId) (Dp.flat (Ty.int IntKind.i64))) (Dp.pair (Dp.ol (2:Go.TypeId) (Dp.flat (Ty.int IntKind.i64))) (Dp.pair (Dp.ol (2:Go.TypeId) (Dp.flat (Ty.int IntKind.i64))) (Dp.flat Ty.unit)))))]),(2,[.reg 30 (.dat (.int .i64)),.ent 4 (nat_lit 66) (Dp.pair (Dp.ol (2:Go.TypeId) (Dp.flat (Ty.int IntKind.i64))) (Dp.pair (Dp.ol (2:Go.TypeId) (Dp.flat (Ty.int IntKind.i64))) (Dp.pair (Dp.ol (2:Go.TypeId) (Dp.flat (Ty.int IntKind.i64))) (Dp.pair (Dp.ol (2:Go.TypeId) (Dp.flat (Ty.int IntKind.i64))) (Dp.flat Ty.unit)))))])],draws:=[(9,[0,1,3,7,0,16,63,127],.op 0 (.op 1 (.op 2 (.op 3 (.op 4 (.op 5 (.op 6 (.op 7 (.done))))))))),(10,[0,0,2,6,14,0,0,64,0,256,960,2016,4064,8190,16383,32767,65535],.op 0 (.op 1 (.op 2 (.op 3 (.op 5 (.op 6 (.op 7 (.op 8 (.op 9 (.op 10 (.alt 4 (.alt 11 (.alt 12 (.alt 13 (.op 14 (.op 15 (.alt 16 (.done) (.done)))) (.done)) (.done)) (.done)) (.alt 11 (.alt 4 (.alt 12 (.alt 13 (.op 14 (.op 15 (.alt 16 (.done) (.done)))) (.done)) (.done)) (.alt 12 (.alt 4 (.alt 13 (.op 14 (.op 15 (.alt 16 (.done) (.done)))) (.done)) (.done)) (.done))) (.done)))))))))))))]} (fn:=Tryz.f180) Tryz.func180 (by kernel_rfl) (by kernel_rfl) ?_),
 (fun q0=>Zi Zq (Zd q0 Zl) mixed {} (fn:=Tryz.f309) Tryz.func309 (by kernel_rfl) (by kernel_rfl) ?_),
 (fun q0=>Zi Zq (Zd q0 Zl) mixed {loops:=[(0,[.reg 3 (.own (.ol 9 (.flat (.str)))),.reg 12 (.dat (.int .i64))]),(2,[.reg 4 (.own (.ol 9 (.flat (.str)))),.reg 25 (.dat (.int .i64))])]} (fn:=Tryz.f200) Tryz.func200 (by kernel_rfl) (by kernel_rfl) ?_),
 (fun q0 q1=>Zi Zq (Zd q0 (Zd q1 Zl)) mixed {} (fn:=Tryz.f202) Tryz.func202 (by kernel_rfl) (by kernel_rfl) ?_),
 (Zi Zq Zl mixed {loops:=[(0,[.reg 3 (.own (.ol 230 (.flat (ZlD)))),.reg 13 (.dat (.int .i64))]),(2,[.reg 3 (.own (.ol 230 (.flat (ZlD)))),.reg 21 (.dat (.int .i64))]),(4,[.reg 3 (.own (.ol 230 (.flat (ZlD)))),.reg 44 (.dat (.int .i64))])]} (fn:=Tryz.f150) Tryz.func150 (by kernel_rfl) (by kernel_rfl) ?_),
 (Zi Zq Zl mixed {} (fn:=Tryz.f209) Tryz.func209 (by kernel_rfl) (by kernel_rfl) ?_),
 (Zi Zq Zl mixed {} (fn:=Tryz.f255) Tryz.func255 (by kernel_rfl) (by kernel_rfl) ?_),
 (fun q4 q2 q1 q3 q0=>Zi Zq (Zd q4 (Zd q2 (Zd q1 (Zd q3 (Zd q0 Zl))))) mixed {loops:=[(0,[.reg 25 (.dat (.int .i64)),.ent 2 (nat_lit 3) (.flat Zu8.ety)]),(2,[.reg 51 (.dat (.int .i64)),.ent 2 (nat_lit 3) (.flat Zu8.ety)])]} (fn:=Tryz.f149) Tryz.func149 (by kernel_rfl) (by kernel_rfl) ?_),
 (fun q0=>Zi Zq (Zd q0 Zl) mixed {} (fn:=Tryz.f225) Tryz.func225 (by kernel_rfl) (by kernel_rfl) ?_),
 (fun q1 q0=>Zi Zq (Zd q1 (Zd q0 Zl)) mixed {} (fn:=Tryz.f319) Tryz.func319 (by kernel_rfl) (by kernel_rfl) ?_),
 (fun q0=>Zi Yv (Zd q0 (ZBx (ZDg Yv Zl mixed {draws:=[(0,[0,0,0,4,12,30,62,127,255],.op 0 (.op 1 (.op 2 (.op 3 (.op 4 (.op 5 (.op 6 (.op 7 (.alt 8 (.done) (.done))))))))))]} (fn:=Tryz.f172) Tryz.func172 (by kernel_rfl) (by kernel_rfl)) Zl)) mixed {loops:=[(0,[.reg 18 (.dat (.int .i64)),.ent 0 (nat_lit 136) (.flat ZU),.cell 7 0 .bool]),(2,[.reg 36 (.dat (.int .i64)),.ent 1 (nat_lit 163) (.flat Zx),.cell 7 0 .bool]),(4,[.reg 54 (.dat (.int .i64)),.ent 2 (nat_lit 163) (.flat Zx),.cell 7 0 .bool]),(6,[.reg 72 (.dat (.int .i64)),.cell 7 0 (.bool),.ent 3 (nat_lit 140) (Dp.pair (Dp.flat (Ty.int IntKind.i64)) (Dp.pair (Dp.flat (Ty.int IntKind.i64)) (Dp.pair (Dp.ol (2:Go.TypeId) (Dp.flat (Ty.int IntKind.i64))) (Dp.pair (Dp.ol (2:Go.TypeId) (Dp.flat (Ty.int IntKind.i64))) (Dp.pair (Dp.ol (2:Go.TypeId) (Dp.flat (Ty.int IntKind.i64))) (Dp.flat Ty.unit))))))])]} (fn:=Tryz.f103) Tryz.func103 (by kernel_rfl) (by kernel_rfl) ?_),
 (fun q2 q0 q1=>Zi Zq (Zd q2 (Zd q0 (Zd q1 Zl))) mixed {loops:=[(0,[.reg 3 (.own (.ol 9 (.flat (.str)))),.reg 8 (.dat (.int .i64))])]} (fn:=Tryz.f277) Tryz.func277 (by kernel_rfl) (by kernel_rfl) ?_),
 (fun q1 q0=>Zi Zq (Zd q1 (Zd q0 Zl)) mixed {} (fn:=Tryz.f318) Tryz.func318 (by kernel_rfl) (by kernel_rfl) ?_),
 (fun q0=>Zi Yv (Zd q0 Zl) mixed {loops:=[(0,[.reg 3 (.own (.ol 337 (ZfI))),.reg 8 (.dat (.int .i64))])],draws:=[(5,[0,0,2,6,0,16,62,0,128,510,1022,2046,4095,8191],.op 0 (.op 1 (.op 2 (.op 4 (.op 5 (.op 7 (.op 8 (.alt 3 (.alt 6 (.alt 9 (.op 10 (.alt 11 (.alt 12 (.op 13 (.done)) (.done)) (.done))) (.done)) (.done)) (.done)))))))))]} (fn:=Tryz.f265) Tryz.func265 (by kernel_rfl) (by kernel_rfl) ?_),
 (Zi Zq Zl mixed {} (fn:=Tryz.f251) Tryz.func251 (by kernel_rfl) (by kernel_rfl) ?_),
 (fun q0 q3 q2 q1=>Zi Zq (Zd q0 (Zd q3 (Zd q2 (Zd q1 Zl)))) mixed {} (fn:=Tryz.f328) Tryz.func328 (by kernel_rfl) (by kernel_rfl) ?_),
 (fun q0=>Zi Zq (Zd q0 Zl) mixed {} (fn:=Tryz.f260) Tryz.func260 (by kernel_rfl) (by kernel_rfl) ?_),
 (fun q0=>Zi Zq (Zd q0 Zl) mixed {} (fn:=Tryz.f228) Tryz.func228 (by kernel_rfl) (by kernel_rfl) ?_),
 (Zi Zq Zl mixed {} (fn:=Tryz.f269) Tryz.func269 (by kernel_rfl) (by kernel_rfl) ?_),
 (fun q3 q1 q0 q2=>Zi Zq (Zd q3 (Zd q1 (Zd q0 (Zd q2 Zl)))) mixed {} (fn:=Tryz.f12) Tryz.func12 (by kernel_rfl) (by kernel_rfl) ?_),
 (fun q0=>Zi Zq (Zd q0 Zl) mixed {loops:=[(0,[.reg 5 (.dat (.int .i64))])],draws:=[(6,[0,0,3,7,0,0,48,112,255,511],.op 0 (.op 1 (.op 2 (.op 3 (.op 4 (.op 5 (.op 6 (.op 7 (.alt 8 (.op 9 (.done)) (.done))))))))))]} (fn:=Tryz.f290) Tryz.func290 (by kernel_rfl) (by kernel_rfl) ?_),
 (fun q0=>Zi Zq (Zd q0 Zl) mixed {loops:=[(0,[.reg 5 (.dat (.int .i64))])],draws:=[(6,[0,0,3,7,0,0,48,112,255,511],.op 0 (.op 1 (.op 2 (.op 3 (.op 4 (.op 5 (.op 6 (.op 7 (.alt 8 (.op 9 (.done)) (.done))))))))))]} (fn:=Tryz.f49) Tryz.func49 (by kernel_rfl) (by kernel_rfl) ?_),
 (fun q0=>Zi Yv (Zd q0 Zl) mixed {loops:=[(0,[.reg 1 (.dat (.int .i64)),.reg 5 (.dat (.int .i64)),.ent 0 (nat_lit 292) (Dp.pair (Dp.flat (Ty.int IntKind.i64)) (Dp.pair (Dp.flat (Ty.int IntKind.i64)) (Dp.pair (Dp.flat (Ty.int IntKind.i64)) (Dp.pair (Dp.flat (Ty.int IntKind.i64)) (Dp.pair (Dp.ol (337:Go.TypeId) ZfI) (Dp.pair (Dp.ol (337:Go.TypeId) ZfI) (Dp.flat Ty.unit)))))))])]} (fn:=Tryz.f187) Tryz.func187 (by kernel_rfl) (by kernel_rfl) ?_),
 (Zi Yv Zl mixed {loops:=[(0,[.reg 1 (.dat (.int .i64)),.reg 5 (.dat (.int .i64)),.ent 0 (nat_lit 2) (.flat (Ty.int IntKind.i64))])]} (fn:=Tryz.f119) Tryz.func119 (by kernel_rfl) (by kernel_rfl) ?_),
 (fun q0=>Zi Zq (Zd q0 Zl) mixed {loops:=[(0,[.reg 1 (.dat (.int .i64)),.reg 5 (.dat (.int .i64))])]} (fn:=Tryz.f25) Tryz.func25 (by kernel_rfl) (by kernel_rfl) ?_),
 (Zi Zq Zl mixed {} (fn:=Tryz.f238) Tryz.func238 (by kernel_rfl) (by kernel_rfl) ?_),
 (fun q0=>Zi Zq (Zd q0 Zl) mixed {loops:=[(0,[.reg 1 (.dat (.int .i64)),.reg 5 (.dat (.int .i64))])]} (fn:=Tryz.f66) Tryz.func66 (by kernel_rfl) (by kernel_rfl) ?_),
 (fun q0=>Zi Zq (Zd q0 Zl) mixed {loops:=[(0,[.reg 1 (.dat (.int .i64)),.reg 5 (.dat (.int .i64))])]} (fn:=Tryz.f21) Tryz.func21 (by kernel_rfl) (by kernel_rfl) ?_),
 (fun q0=>Zi Yv (Zd q0 Zl) mixed {loops:=[(0,[.reg 4 (.dat (.int .i64)),.ent 0 (nat_lit 292) Zxk])]} (fn:=Tryz.f198) Tryz.func198 (by kernel_rfl) (by kernel_rfl) ?_),
 (fun q1 q2 q0=>Zi Yv (Zd q1 (Zd q2 (Zd q0 Zl))) mixed {} (fn:=Tryz.f145) Tryz.func145 (by kernel_rfl) (by kernel_rfl) ?_),
 (fun q0=>Zi Zq (Zd q0 Zl) mixed {loops:=[(0,[.reg 4 (.dat (.int .i64)),.ent 0 (nat_lit 136) (.flat ZCn.ety)])]} (fn:=Tryz.f36) Tryz.func36 (by kernel_rfl) (by kernel_rfl) ?_),
 (fun q0=>Zi Zq (Zd q0 Zl) mixed {} (fn:=Tryz.f96) Tryz.func96 (by kernel_rfl) (by kernel_rfl) ?_),
 (fun q0=>Zi Yv (Zd q0 Zl) mixed {} (fn:=Tryz.f32) Tryz.func32 (by kernel_rfl) (by kernel_rfl) ?_),
 (Zi Zq Zl mixed {} (fn:=Tryz.f242) Tryz.func242 (by kernel_rfl) (by kernel_rfl) ?_),
 (Zi Zq Zl mixed {} (fn:=Tryz.f266) Tryz.func266 (by kernel_rfl) (by kernel_rfl) ?_),
 (fun q0=>Zi Zq (Zd q0 Zl) mixed {loops:=[(0,[.reg 8 (.dat (.int .i64))])]} (fn:=Tryz.f254) Tryz.func254 (by kernel_rfl) (by kernel_rfl) ?_),
 (fun q0=>Zi Zq (Zd q0 Zl) mixed {loops:=[(0,[.reg 8 (.dat (.int .i64))])]} (fn:=Tryz.f280) Tryz.func280 (by kernel_rfl) (by kernel_rfl) ?_),
 (Zi Zq Zl mixed {loops:=[(0,[.reg 3 (.dat (.int .i64)),.reg 4 (.dat (.int .i64))])]} (fn:=Tryz.f320) Tryz.func320 (by kernel_rfl) (by kernel_rfl) ?_),
 (fun q0 q1 q2=>Zi Zq (Zd q0 (Zd q1 (Zd q2 Zl))) mixed {loops:=[(0,[.reg 5 (.own (.ol 9 (.flat (.str)))),.reg 6 (.dat (.int .i64))]),(2,[.reg 7 (.own (.ol 9 (.flat (.str)))),.reg 8 (.dat (.int .i64))]),(4,[.reg 10 (.dat (.int .i64)),.ent 6 (nat_lit 2) (.flat Zxe.ety)]),(6,[.reg 12 (.dat (.int .i64)),.ent 6 (nat_lit 2) (.flat Zxe.ety)]),(8,[.reg 13 (.dat (.int .i64))])]} (fn:=Tryz.f125) Tryz.func125 (by kernel_rfl) (by kernel_rfl) ?_),
 (fun q5 q4 q2 q3 q1 q0=>Zi Zq (Zd q5 (Zd q4 (Zd q2 (Zd q3 (Zd q1 (Zd q0 Zl)))))) mixed {loops:=[(0,[.reg 5 (.dat (.int .i64))]),(2,[.reg 6 (.dat (.int .i64))])],draws:=[(6,[0,1,0,7,15,31,0,64,192,448,1023],.op 0 (.op 1 (.op 2 (.op 3 (.op 4 (.op 5 (.op 6 (.op 7 (.alt 8 (.op 9 (.op 10 (.done))) (.done)))))))))),(11,[0,0,2,0,14,30,63,127],.op 0 (.op 1 (.op 2 (.op 3 (.op 4 (.op 5 (.alt 6 (.op 7 (.done)) (.done))))))))]} (fn:=Tryz.f28) Tryz.func28 (by kernel_rfl) (by kernel_rfl) ?_),
 (Zi Zq Zl mixed {} (fn:=Tryz.f128) Tryz.func128 (by kernel_rfl) (by kernel_rfl) ?_),
 (fun q0=>Zi Yv (Zd q0 Zl) mixed {loops:=[(0,[.reg 3 (.own (.ol 337 (ZfI))),.reg 4 (.dat (.int .i64))])]} (fn:=Tryz.f241) Tryz.func241 (by kernel_rfl) (by kernel_rfl) ?_),
 (Zi Zq Zl mixed {loops:=[(0,[.reg 3 (.own (.ol 149 (.flat (Zg1)))),.reg 4 (.dat (.int .i64))]),(2,[.reg 3 (.own (.ol 149 (.flat (Zg1)))),.reg 6 (.dat (.int .i64))]),(4,[.reg 3 (.own (.ol 149 (.flat (Zg1)))),.reg 7 (.dat (.int .i64))])],draws:=[(13,[0,0,0,4,0,28,60,124,0,256,0,1792,3840,7936,16128,32766,65534,131071,262143],.op 0 (.op 1 (.op 2 (.op 3 (.op 4 (.op 5 (.op 6 (.op 7 (.op 8 (.op 9 (.op 10 (.op 11 (.op 12 (.op 13 (.op 14 (.op 15 (.alt 16 (.alt 17 (.op 18 (.done)) (.done)) (.done))))))))))))))))))]} (fn:=Tryz.f77) Tryz.func77 (by kernel_rfl) (by kernel_rfl) ?_),
 (Zi Zq Zl mixed {} (fn:=Tryz.f144) Tryz.func144 (by kernel_rfl) (by kernel_rfl) ?_),
 (Zi Zq Zl mixed {loops:=[(0,[.reg 5 (.dat (.int .i64))])],draws:=[(6,[0,1,0,7,15,31,0,64,0,448,960,1984,4095],.op 0 (.op 1 (.op 2 (.op 3 (.op 4 (.op 5 (.op 6 (.op 7 (.op 8 (.op 9 (.op 10 (.op 11 (.op 12 (.done))))))))))))))]} (fn:=Tryz.f129) Tryz.func129 (by kernel_rfl) (by kernel_rfl) ?_),
 (Zi Yv Zl mixed {draws:=[(3,[0,1,0,4,15,31,63,0,128,0,1023,2047],.op 0 (.op 1 (.op 2 (.op 3 (.op 4 (.op 5 (.op 6 (.op 7 (.op 8 (.op 9 (.op 10 (.alt 11 (.done) (.done)))))))))))))]} (fn:=Tryz.f86) Tryz.func86 (by kernel_rfl) (by kernel_rfl) ?_),
 (fun q0 q1 q2=>Zi Zq (Zd q0 (Zd q1 (Zd q2 Zl))) mixed {draws:=[(6,[0,1,3,0,8,31,63,127,255,511,1023,2047,4095,8191,1023,32767,65535,131071,262143,524287,1048575,262143,4194303,8388607,262143,17039359,67108863,134217727,268435455,536870911,1073741823,2147483647,4294967295,536870911,17179869183,34359738367],.op 0 (.op 1 (.op 2 (.op 3 (.op 4 (.op 5 (.op 6 (.alt 7 (.op 8 (.op 9 (.op 10 (.op 11 (.op 12 (.op 13 (.op 14 (.op 15 (.op 16 (.op 17 (.op 18 (.op 19 (.op 20 (.op 21 (.op 22 (.op 23 (.op 24 (.op 25 (.op 26 (.op 27 (.op 28 (.op 29 (.op 30 (.op 31 (.op 32 (.op 33 (.op 34 (.op 35 (.done))))))))))))))))))))))))))))) (.done)))))))))]} (fn:=Tryz.f134) Tryz.func134 (by kernel_rfl) (by kernel_rfl) ?_),
 (fun q3 q4 q1 q0 q5 q2=>Zi ZxL (Zd q3 (Zd q4 (Zd q1 (Zd q0 (Zd q5 (Zd q2 Zl)))))) mixed {draws:=[(7,[0,1,0,4,12,0,60,124,0,256,768,0,3840,7936,16128,32512,65280,131071],.op 0 (.op 1 (.op 2 (.op 3 (.op 5 (.op 8 (.op 9 (.op 10 (.op 11 (.op 12 (.op 13 (.op 14 (.op 15 (.op 16 (.alt 4 (.op 6 (.op 7 (.alt 17 (.done) (.done)))) (.done)))))))))))))))),(8,[0,0,2,7,15,0,0,96,255,511],.op 0 (.op 1 (.op 2 (.op 5 (.op 6 (.alt 3 (.alt 4 (.alt 7 (.alt 8 (.op 9 (.done)) (.done)) (.done)) (.alt 7 (.alt 4 (.alt 8 (.op 9 (.done)) (.done)) (.done)) (.done))) (.alt 7 (.alt 3 (.alt 4 (.alt 8 (.op 9 (.done)) (.done)) (.done)) (.done)) (.done)))))))),(9,[0,1,3,0,15,0,32,96,0,480,0,1024,3072,8191,0,32767],.op 0 (.op 1 (.op 2 (.op 3 (.op 5 (.op 6 (.op 7 (.op 8 (.op 10 (.op 11 (.op 12 (.alt 4 (.alt 9 (.op 13 (.alt 14 (.alt 15 (.done) (.done)) (.done))) (.alt 14 (.alt 9 (.op 13 (.alt 15 (.done) (.done))) (.done)) (.done))) (.alt 9 (.alt 4 (.op 13 (.alt 14 (.alt 15 (.done) (.done)) (.done))) (.alt 14 (.alt 4 (.op 13 (.alt 15 (.done) (.done))) (.done)) (.done))) (.alt 14 (.alt 4 (.alt 9 (.op 13 (.alt 15 (.done) (.done))) (.done)) (.alt 9 (.alt 4 (.op 13 (.alt 15 (.done) (.done))) (.done)) (.done))) (.done))))))))))))))),(10,[0,1,0,0,8,0,56,127,0,511,1023],.op 0 (.op 1 (.op 2 (.op 3 (.op 4 (.op 5 (.op 8 (.alt 6 (.op 7 (.alt 9 (.alt 10 (.done) (.done)) (.done))) (.done)))))))))]} (fn:=Tryz.f84) Tryz.func84 (by kernel_rfl) (by kernel_rfl) ?_),
 (Zi Zq Zl mixed {} (fn:=Tryz.f140) Tryz.func140 (by kernel_rfl) (by kernel_rfl) ?_),
 (fun q0=>Zi Zq (Zd q0 Zl) mixed {loops:=[(0,[.reg 3 (.dat (.int .i64))]),(2,[.reg 4 (.dat (.int .i64))])],draws:=[(9,[0,0,3,7,15,0,0,96,224,480,1023],.op 0 (.op 1 (.op 2 (.op 3 (.op 4 (.op 5 (.op 6 (.op 7 (.op 8 (.op 9 (.op 10 (.done))))))))))))]} (fn:=Tryz.f76) Tryz.func76 (by kernel_rfl) (by kernel_rfl) ?_)⟩
 all_goals
  intro a
  repeat rcases a with ⟨_,a⟩
  rintro K ⟨r,h,hK⟩
  repeat'
    conv=>whnf
    first
    | with_reducible refine ZwB ?_
    | with_reducible refine ZfW (by assumption) (by assumption) (by assumption) ?_
    | with_reducible refine Vd (by assumption) ?_
    | with_reducible refine Zf1 (by assumption) ?_
    | (with_reducible refine shD ?_);first | refine Zo7 h (fun h=>?_) (fun h=>?_) | refine ZuW h (fun h=>?_) (fun h=>?_)
    | (with_reducible refine Zxc ?_);first | refine ZxD ?_ | refine Zng ?_
    | (with_reducible refine ZCb ?_);first | refine ZtV h (fun h=>?_) (fun h=>?_) | refine Zxf h (fun h=>?_) (fun h=>?_)
    | (with_reducible refine ZwQ ?_);(refine ⟨fun hd=>?_,?_⟩)<;>try subst hd
    | (with_reducible refine ZCj ?_);first | with_reducible refine ZbB h (fun x hb h=>?_) | refine Zf1 (by assumption) ?_ | with_reducible refine pG h (fun hp h=>?_) | with_reducible refine pA h (fun x ha hb hx h=>?_) | with_reducible refine pB h (fun x hb h=>?_) | refine ZbB h (fun x hb h=>?_)
    | (with_reducible refine ZB5 ?_);first | with_reducible refine vAt h (fun x ha hb hx h=>?_) | refine ZfW (by assumption) (by assumption) (by assumption) ?_ | with_reducible refine pG h (fun hp h=>?_) | with_reducible refine pA h (fun x ha hb hx h=>?_) | with_reducible refine pB h (fun x hb h=>?_) | refine vAt h (fun x ha hb hx h=>?_)
    | (with_reducible refine Zxa ?_);first | with_reducible refine ZpJ h (fun x hb h=>?_) | refine Vd (by assumption) ?_ | with_reducible refine pG h (fun hp h=>?_) | with_reducible refine pA h (fun x ha hb hx h=>?_) | with_reducible refine pB h (fun x hb h=>?_) | refine ZpJ h (fun x hb h=>?_)
    | with_reducible refine ZB7 ?_
    | (with_reducible refine Zsj ?_);refine ZrZ h hK ?_;clear h hK;intro I μ v r h hK;(repeat rcases v with ⟨_,v⟩);(try dsimp only at h)
    | with_reducible refine ⟨by assumption,?_⟩
    | with_reducible refine orL ?_
    | with_reducible refine .inr ?_
    | (with_reducible refine Zxb ?_);first | refine ⟨?_,True.intro⟩ | refine ⟨?_,?_⟩
    | refine ⟨by kernel_rfl,?_⟩
    | refine ⟨by decide,?_⟩
    | with_reducible refine Zrq h (fun hp h=>?_)
    | intro fp
    | exact trivial
    | with_reducible exact Zw1 h
    | (refine pS h (fun e=>?_));subst e;(repeat (first | exact hK | exact ⟨⟨rfl,rfl⟩,hK.1 _ rfl⟩ | (refine pR hK (fun e hK=>?_));subst e));done
    | refine Zrq h (fun hp h=>?_)
    | refine ⟨by assumption,?_⟩
    | with_reducible refine pG h (fun hp h=>?_) | with_reducible refine pA h (fun x ha hb hx h=>?_) | with_reducible refine pB h (fun x hb h=>?_)
    | refine pG h (fun hp h=>?_)
    | fail
theorem ZHv (q0:Zc Tryz.prog 266 ZEO) (q2:Zc Tryz.prog 267 ZF1) (q1:Zc Tryz.prog 268 ZEb) (q3:Zc Tryz.prog 171 c193):Zc Tryz.prog 233 ZEJ:=by
 refine Zi Yv (Zd q0 (Zd q2 (Zd q1 (Zd q3 Zl)))) mixed {loops:=[(0,[.reg 19 (.dat (.int .i64)),.splt 1300 147 (Zcf)])],draws:=[(1,[0,1,3,0,8,31,0,64,255,511,0,2047],.op 0 (.op 1 (.op 3 (.op 4 (.op 6 (.op 7 (.alt 2 (.alt 5 (.alt 8 (.op 9 (.alt 10 (.alt 11 (.done) (.done)) (.done))) (.alt 10 (.alt 8 (.op 9 (.alt 11 (.done) (.done))) (.done)) (.done))) (.alt 10 (.alt 5 (.alt 8 (.op 9 (.alt 11 (.done) (.done))) (.done)) (.done)) (.done))) (.alt 10 (.alt 2 (.alt 5 (.alt 8 (.op 9 (.alt 11 (.done) (.done))) (.done)) (.done)) (.done)) (.done))))))))),(5,[0,1,0,0,8,24,63,127,255],.op 0 (.op 1 (.op 2 (.op 3 (.op 4 (.alt 5 (.op 6 (.op 7 (.alt 8 (.done) (.done)))) (.done)))))))]} (fn:=Tryz.f233) Tryz.func233 (by kernel_rfl) (by kernel_rfl) ?_
 rintro ⟨d0,⟨⟩⟩ K ⟨r,h,hK⟩
 change VB d0=some r at h
 unfold VB at h
 focus
  conv=>whnf
  refine ⟨by kernel_rfl,?_⟩
  conv=>whnf
  obtain ⟨Instance0,hb0,h⟩:=Option.bind_eq_some_iff.1 h
  obtain ⟨string0,hb1,h⟩:=Option.bind_eq_some_iff.1 h
  obtain ⟨Port0,hb2,h⟩:=Option.bind_eq_some_iff.1 h
  refine ⟨?_,?_⟩
  rotate_left
  focus
   conv=>whnf
   refine ⟨_,hb0,?_⟩
   conv=>whnf
   refine ⟨_,hb1,?_⟩
   conv=>whnf
   refine ⟨_,hb2,?_⟩
   conv=>whnf
   refine ⟨trivial,?_⟩
  rotate_right
  focus
   conv=>whnf
   refine ⟨_,hb0,?_⟩
   conv=>whnf
   refine ⟨?_,?_⟩
   rotate_left
   focus
    conv=>whnf
    refine ⟨_,hb1,?_⟩
    conv=>whnf
    refine ⟨_,hb2,?_⟩
    conv=>whnf
    refine ⟨trivial,?_⟩
   rotate_right
   focus
    conv=>whnf
    refine ⟨_,hb1,?_⟩
    conv=>whnf
    refine ⟨?_,?_⟩
    rotate_left
    focus
     conv=>whnf
     refine ⟨_,hb2,?_⟩
     conv=>whnf
     refine ⟨trivial,?_⟩
    rotate_right
    focus
     conv=>whnf
     refine ⟨_,hb2,?_⟩
     conv=>whnf
     refine ⟨trivial,?_⟩
  all_goals
   conv=>whnf
   refine Zzr h ?_
   rintro I3 μ3 ⟨v0,l0,⟨⟩⟩ zs3 h hI3 hR3
   change Qn Instance0 string0 Port0 v0 l0=some zs3 at h
   unfold Qn at h
   conv=>whnf
   intro fp4
   conv=>whnf
   refine Zo7 h (fun h=>?_) (fun h=>?_)
   conv=>whnf
   refine vAt h (fun x0 he5a he5b he5x h=>?_)
   conv=>whnf
   refine Zrq h (fun hp6 h=>?_)
   conv=>whnf
   refine ⟨he5a,he5b,Vd he5x ?_⟩
   conv=>whnf
   refine ⟨by kernel_rfl,?_⟩
   conv=>whnf
   refine ZbB h (fun int64_0 hb7 h=>?_)
   conv=>whnf
   refine ⟨he5a,he5b,Vd he5x ?_⟩
   conv=>whnf
   refine Zrq h (fun hp8 h=>?_)
   conv=>whnf
   refine vAt h (fun x1 he9a he9b he9x h=>?_)
   conv=>whnf
   refine ⟨trivial,?_⟩
   conv=>whnf
   cases h
   exact ⟨⟨rfl,rfl⟩,hI3 _ rfl⟩
   conv=>whnf
   refine Zrq h (fun hp10 h=>?_)
   conv=>whnf
   cases h
   obtain rfl:=hR3 _ rfl
   exact hK
theorem Zty (rec0:(List Zf)→Int→Option XC) (hrec:Zc Tryz.prog 137 (Zgs rec0)):Zc Tryz.prog 137 (Zgs (Zch rec0)):=by
 refine Zi Zq (Zd hrec Zl) mixed {} (fn:=Tryz.f137) Tryz.func137 (by kernel_rfl) (by kernel_rfl) ?_
 rintro ⟨list0,k0,⟨⟩⟩ K ⟨r,h,hK⟩
 change Zch rec0 list0 k0=some r at h
 unfold Zch at h
 conv=>whnf
 refine vAt h (fun x0 he0a he0b he0x h=>?_)
 conv=>whnf
 refine Zo7 h (fun h=>?_) (fun h=>?_)
 conv=>whnf
 cases h
 exact hK
 conv=>whnf
 refine ZbB h (fun r0 hb1 h=>?_)
 conv=>whnf
 refine Zo7 h (fun h=>?_) (fun h=>?_)
 conv=>whnf
 refine ⟨by decide,?_⟩
 conv=>whnf
 refine ZtV h (fun h=>?_) (fun h=>?_)
 conv=>whnf
 cases h
 exact hK
 conv=>whnf
 cases h
 exact hK
 conv=>whnf
 refine ZtV h (fun h=>?_) (fun h=>?_)
 conv=>whnf
 cases h
 exact hK
 conv=>whnf
 cases h
 exact hK
theorem w89:Zc Tryz.prog 137 c89:=by
 have hn:∀ n,Zc Tryz.prog 137 (Zgs (Zb8 n)):=by
  intro n
  induction n with
  | zero =>
  refine Zi Zq Zl mixed {} (fn:=Tryz.f137) Tryz.func137 (by kernel_rfl) (by kernel_rfl) ?_
  rintro ⟨list0,k0,⟨⟩⟩ K ⟨r,h,hK⟩
  cases h
  | succ n ih=>exact Zty _ ih
 refine ⟨(hn 0).1,?_⟩
 rintro w S vs ⟨list0,k0,⟨⟩⟩ fp K h1 h2 h3 h4 ⟨r,h,hK⟩
 obtain ⟨n,hr⟩:=Zup h
 exact (hn n).2 w S vs _ fp K h1 h2 h3 h4 ⟨r,hr,hK⟩
end Go.Proofs.YtoefbkmllkpkkaaGreatDoor
