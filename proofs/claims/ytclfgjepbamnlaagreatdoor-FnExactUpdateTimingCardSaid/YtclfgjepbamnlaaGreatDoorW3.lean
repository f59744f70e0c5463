/-
  The functions keep their contracts, if what they call does. Printed by program.
-/
import Derived.Test.YtclfgjepbamnlaaGreatDoorM
import Derived.KernelRfl
namespace Go.Proofs.YtclfgjepbamnlaaGreatDoor
open Go Go.Sx
set_option maxRecDepth 100000
set_option maxHeartbeats 6400000
set_option linter.unusedVariables false
set_option linter.unusedSimpArgs false
structure Ws3:Prop where
 w217:Sq 369 ZzG
 w167:Sq 263 c167
 w174:Sq 265 c173→Sq 192 Zw5
 w173:Sq 191 Zzh→Sq 265 c173
 w138:Sq 376 c138
 w149:Sq 303 c116→Sq 255 Zyf
 w156:Sq 304 Zy8→Sq 217 ZyO→Sq 140 Zzb→Sq 256 c156
 w153:Sq 257 c152→Sq 305 Zza
 w152:Sq 235 Zy9→Sq 217 ZyO→Sq 257 c152
 w147:Sq 187 ZyP→Sq 346 c117→Sq 347 c141→Sq 217 ZyO→Sq 348 c146→Sq 302 Zy7
 w148:Sq 302 Zy7→Sq 303 c116→Sq 254 c148
 w162:Sq 217 ZyO→Sq 260 c162
 w120:Sq 217 ZyO→Sq 216 ZvG
 w191:Sq 199 Zzs→Sq 198 Zzt
 w196:Sq 54 Zzj→Sq 198 Zzt→Sq 200 Zzu→Sq 201 Zzv→Sq 115 c196
 w207:Sq 141 ZzB
 w180:Sq 217 ZyO→Sq 220 Zyh
 w178:Sq 193 Zxl
 w185:Sq 196 Zzn
 w151:Sq 235 Zy9
 w210:Sq 203 c210
 w188:Sq 197 Zzp→Sq 142 Zzl→Sq 195 c183→Sq 113 Zzq
 w189:Sq 114 Zzr
 w228:Sq 316 c227→Sq 270 c222→Sq 273 c228
 w111:Sq 217 ZyO
 w245:Sq 318 ZzW→Sq 275 ZzX
 w254:Sq 123 Zz0→Sq 124 Zz1→Sq 125 Zz3→Sq 57 Zz4
 w239:Sq 17 ZzS
 w248:Sq 122 ZvH→Sq 56 ZzZ
 w237:Sq 126 c236→Sq 61 ZzQ
 w255:Sq 17 ZzS→Sq 84 Zz5
 w280:Sq 25 ZGw
 w279:Sq 72 ZGt→Sq 73 ZGu→Sq 28 ZGv
 w264:Sq 276 ZAd→Sq 214 ZAe
 w272:Sq 62 ZGi→Sq 63 ZGm→Sq 64 ZGn→Sq 21 ZGo
 w267:Sq 212 ZAa→Sq 22 ZAc→Sq 128 ZGj
 w260:Sq 212 ZAa
 w276:Sq 65 ZGq→Sq 66 ZGr→Sq 24 ZGs
 w19:Sq 7 c19
 w15:Sq 87 c11→Sq 88 c12→Sq 89 c14→Sq 36 c15
 w11:Sq 172 c10→Sq 87 c11
 w13:Sq 173 c13
 w16:Sq 143 c2→Sq 74 c16
 w17:Sq 74 c16→Sq 37 c17
 w35:Sq 183 c34→Sq 104 c35
 w24:Sq 300 c24
 w36:Sq 105 c36
 w140:Sq 391 c139→Sq 375 Zy4
 w130:Sq 404 ZyY→Sq 397 c130
 w209:Sq 219 c208→Sq 140 ZzC
 w115:Sq 363 ZyQ→Sq 349 ZyR
 w139:Sq 376 c138→Sq 391 c139
 w143:Sq 392 Zy5→Sq 391 c143
 w127:Sq 400 c127
 w68:Sq 176 c51→Sq 177 c50→Sq 91 c68
 w63:Sq 242 c60→Sq 243 c61→Sq 244 c62→Sq 174 c63
 w70:Sq 176 c51→Sq 134 c70
 w66:Sq 176 c51→Sq 175 c66
 w58:Sq 343 c58
 w52:Sq 177 c50→Sq 176 c51→Sq 341 c52
 w76:Sq 100 c64→Sq 96 c76
 w64:Sq 100 c64
 w92:Sq 228 c90→Sq 100 c64→Sq 97 c65→Sq 344 c91→Sq 296 c92
 w81:Sq 99 c81
 w101:Sq 245 c93→Sq 246 c96→Sq 248 c97→Sq 247 c99→Sq 250 ZyI→Sq 249 c95→Sq 180 ZyJ
 w85:Sq 90 c67→Sq 91 c68→Sq 179 c79→Sq 145 c80→Sq 132 c84→Sq 93 c85
 w107:Sq 101 c105→Sq 102 ZyN→Sq 44 c107
 w71:Sq 178 c71
 w87:Sq 43 c69→Sq 131 c78→Sq 67 c87
 w88:Sq 46 c88
set_option maxHeartbeats 100000000 in
theorem ws3:Ws3:=by
 refine ⟨(Ze Zl Zf mixed {} Tryz.func369 (hvc:=?_)),
 (Ze Zl Zf mixed {} Tryz.func263 (hvc:=?_)),
 (fun q0=>Ze Zl (Zb q0 Zf) mixed {loops:=[(0,[.reg 6 (.own (.ol 2 (.flat Iq))),.reg 19 (.dat Iq)])]} Tryz.func192 (hvc:=?_)),
 (fun q0=>Ze Zl (Zb q0 Zf) mixed {loops:=[(0,[.reg 8 (.dat Iq),.ent 3 (nat_lit 2) (.flat Zum.ety)])],draws:=[(1,[0,1,0,7,15,0,0,96,0,511,1023],.op 0 (.op 1 (.op 2 (.op 3 (.op 4 (.op 5 (.op 6 (.alt 7 (.alt 8 (.alt 9 (.op 10 (.done)) (.done)) (.done)) (.alt 8 (.alt 7 (.alt 9 (.op 10 (.done)) (.done)) (.done)) (.done)))))))))),(6,[0,0,0,0,8,0,56,120,252,508,0,1024,0,7168,15360,0,0,98304,229376,523264,1048572,2097151,4194303],.op 0 (.op 1 (.op 2 (.op 3 (.op 4 (.op 5 (.op 6 (.op 7 (.op 8 (.op 9 (.op 10 (.op 11 (.op 12 (.op 13 (.op 14 (.op 15 (.op 16 (.op 17 (.op 18 (.op 19 (.op 20 (.op 21 (.alt 22 (.done) (.done))))))))))))))))))))))))]} Tryz.func265 (hvc:=?_)),
 (Ze Zl Zf mixed {} Tryz.func376 (hvc:=?_)),
 (fun q0=>Ze Zl (Zb q0 Zf) mixed {loops:=[(0,[.reg 3 (.own (.ol 9 (.flat (.str)))),.reg 12 (.dat Iq)]),(2,[.reg 4 (.own (.ol 9 (.flat (.str)))),.reg 25 (.dat Iq)])]} Tryz.func255 (hvc:=?_)),
 (fun q1 q2 q0=>Ze Zl (Zb q1 (Zb q2 (Zb q0 Zf))) mixed {draws:=[(1,[0,1,0,4,12,28,63,127,255,511,1023,255,2303,255,8447,30975,63743,129279,260351,524287,1048575,2097151,4194303,8388607,4194303,33554431,67108863,134217727,268435455],.op 0 (.op 1 (.op 2 (.op 3 (.alt 4 (.op 5 (.alt 6 (.op 7 (.op 8 (.op 9 (.op 10 (.op 11 (.op 12 (.op 13 (.op 14 (.op 15 (.op 16 (.op 17 (.op 18 (.op 19 (.op 20 (.op 21 (.op 22 (.op 23 (.op 24 (.alt 25 (.op 26 (.op 27 (.op 28 (.done)))) (.done)))))))))))))))))))) (.done))) (.done))))))]} Tryz.func256 (hvc:=?_)),
 (fun q0=>Ze Zl (Zb q0 Zf) mixed {} Tryz.func305 (hvc:=?_)),
 (fun q0 q1=>Ze Zl (Zb q0 (Zb q1 Zf)) mixed {} Tryz.func257 (hvc:=?_)),
 (fun q3 q2 q1 q4 q0=>Ze Zl (Zb q3 (Zb q2 (Zb q1 (Zb q4 (Zb q0 Zf))))) mixed {} Tryz.func302 (hvc:=?_)),
 (fun q1 q0=>Ze Zl (Zb q1 (Zb q0 Zf)) mixed {loops:=[(0,[.reg 3 (.own (.ol 9 (.flat (.str)))),.reg 9 (.dat Iq)])]} Tryz.func254 (hvc:=?_)),
 (fun q0=>Ze Zl (Zb q0 Zf) mixed {loops:=[(0,[.reg 8 (.dat Iq)])]} Tryz.func260 (hvc:=?_)),
 (fun q0=>Ze Zl (Zb q0 Zf) mixed {} Tryz.func216 (hvc:=?_)),
 (fun q0=>Ze Zl (Zb q0 Zf) mixed {loops:=[(0,[.reg 5 (.own (.ol 2 (.flat Iq))),.reg 16 (.dat Iq)])]} Tryz.func198 (hvc:=?_)),
 (fun q2 q0 q1 q3=>Ze Zl (Zb q2 (Zb q0 (Zb q1 (Zb q3 Zf)))) mixed {loops:=[(0,[.reg 20 (.dat Iq),.ent 0 (nat_lit 3) (.flat Zqe.ety)]),(2,[.reg 7 (.own (.ol 2 (.flat Iq))),.reg 43 (.dat Iq),.ent 0 (nat_lit 3) (.flat Zqe.ety)]),(4,[.reg 60 (.dat Iq),.ent 0 (nat_lit 3) (.flat Zqe.ety)])]} Tryz.func115 (hvc:=?_)),
 (Ze Zl Zf mixed {draws:=[(1,[0,0,2,6,14,30,62,126,0,510,1022,2046,4095,8191,16383],.op 0 (.op 1 (.op 2 (.op 3 (.op 4 (.op 5 (.op 6 (.op 7 (.op 8 (.op 9 (.op 10 (.op 11 (.op 12 (.op 13 (.op 14 (.done))))))))))))))))]} Tryz.func141 (hvc:=?_)),
 (fun q0=>Ze Zl (Zb q0 Zf) mixed {} Tryz.func220 (hvc:=?_)),
 (Ze Zl Zf mixed {} Tryz.func193 (hvc:=?_)),
 (Ze Zl Zf mixed {} Tryz.func196 (hvc:=?_)),
 (Ze Zl Zf mixed {} Tryz.func235 (hvc:=?_)),
 (Ze Zl Zf mixed {} Tryz.func203 (hvc:=?_)),
 (fun q0 q2 q1=>Ze Zl (Zb q0 (Zb q2 (Zb q1 Zf))) mixed {loops:=[(0,[.reg 9 (.dat Iq)])],draws:=[(4,[0,0,2,7,15,31,63,127,255,511,1023,2047,4095,8191,16383,32767,65535,131071,262143,524287,1048575,2097151,2097151,6291455,16777215,33554431,67108863,2097151,136314879,536870911,1073741823,2147483647],.op 0 (.op 1 (.op 2 (.alt 3 (.op 4 (.op 5 (.op 6 (.op 7 (.alt 8 (.op 9 (.op 10 (.op 11 (.op 12 (.op 13 (.alt 14 (.op 15 (.op 16 (.op 17 (.op 18 (.op 19 (.op 20 (.op 21 (.op 22 (.op 23 (.op 24 (.op 25 (.op 26 (.op 27 (.op 28 (.op 29 (.op 30 (.op 31 (.done)))))))))))))))))) (.done))))))) (.done)))))) (.done)))))]} Tryz.func113 (hvc:=?_)),
 (Ze Zl Zf mixed {loops:=[(0,[.reg 23 (.dat Iq),.ent 0 (nat_lit 4) (.flat Zvy.ety)]),(2,[.reg 35 (.dat Iq),.ent 0 (nat_lit 4) (.flat Zvy.ety)])]} Tryz.func114 (hvc:=?_)),
 (fun q1 q0=>Ze Zl (Zb q1 (Zb q0 Zf)) mixed {} Tryz.func273 (hvc:=?_)),
 (Ze Zl Zf mixed {} Tryz.func217 (hvc:=?_)),
 (fun q0=>Ze Zl (Zb q0 Zf) mixed {loops:=[(0,[.reg 5 (.dat Iq)])],draws:=[(6,[0,0,3,7,0,0,48,112,255,511],.op 0 (.op 1 (.op 2 (.op 3 (.op 4 (.op 5 (.op 6 (.op 7 (.alt 8 (.op 9 (.done)) (.done))))))))))]} Tryz.func275 (hvc:=?_)),
 (fun q0 q1 q2=>Ze Zl (Zb q0 (Zb q1 (Zb q2 Zf))) mixed {} Tryz.func57 (hvc:=?_)),
 (Ze Zl Zf mixed {loops:=[(0,[.reg 5 (.dat Iq)])],draws:=[(6,[0,0,3,7,0,0,48,112,255],.op 0 (.op 1 (.op 2 (.op 3 (.op 4 (.op 5 (.op 6 (.op 7 (.op 8 (.done))))))))))]} Tryz.func17 (hvc:=?_)),
 (fun q0=>Ze Zl (Zb q0 Zf) mixed {} Tryz.func56 (hvc:=?_)),
 (fun q0=>Ze Zl (Zb q0 Zf) mixed {loops:=[(0,[.reg 5 (.dat Iq)])],draws:=[(6,[0,0,3,7,0,0,48,112,255,511],.op 0 (.op 1 (.op 2 (.op 3 (.op 4 (.op 5 (.op 6 (.op 7 (.alt 8 (.op 9 (.done)) (.done))))))))))]} Tryz.func61 (hvc:=?_)),
 (fun q0=>Ze Zl (Zb q0 Zf) mixed {} Tryz.func84 (hvc:=?_)),
 (Ze Zl Zf mixed {loops:=[(0,[.reg 1 (.dat Iq),.reg 5 (.dat Iq)])]} Tryz.func25 (hvc:=?_)),
 (fun q0 q1=>Ze Zl (Zb q0 (Zb q1 Zf)) mixed {} Tryz.func28 (hvc:=?_)),
 (fun q0=>Ze XK (Zb q0 Zf) mixed {loops:=[(0,[.reg 1 (.dat Iq),.reg 5 (.dat Iq),.ent 0 (nat_lit 173) (Dp.pair (Dp.flat (Ty.int IntKind.i64)) (Dp.pair (Dp.flat (Ty.int IntKind.i64)) (Dp.pair (Dp.flat (Ty.int IntKind.i64)) (Dp.pair (Dp.flat (Ty.int IntKind.i64)) (Dp.pair (Dp.ol (317:Go.TypeId) ZgF) (Dp.pair (Dp.ol (317:Go.TypeId) ZgF) (Dp.flat Ty.unit)))))))])]} Tryz.func214 (hvc:=?_)),
 (fun q0 q1 q2=>Ze XK (Zb q0 (Zb q1 (Zb q2 Zf))) mixed {} Tryz.func21 (hvc:=?_)),
 (fun q1 q0=>Ze XK (Zb q1 (Zb q0 Zf)) mixed {loops:=[(0,[.reg 1 (.dat Iq),.reg 5 (.dat Iq),.ent 0 (nat_lit 170) (Dp.pair (Dp.flat Ty.str) (Dp.pair (Dp.flat (Ty.int IntKind.i64)) (Dp.pair (Dp.ol (2:Go.TypeId) (Dp.flat (Ty.int IntKind.i64))) (Dp.flat Ty.unit))))])]} Tryz.func128 (hvc:=?_)),
 (Ze Zl Zf mixed {loops:=[(0,[.reg 0 (.dat Iq),.reg 3 (.dat (.str))])]} Tryz.func212 (hvc:=?_)),
 (fun q0 q1=>Ze XK (Zb q0 (Zb q1 Zf)) mixed {} Tryz.func24 (hvc:=?_)),
 (Ze Zl Zf mixed {} Tryz.func7 (hvc:=?_)),
 (fun q0 q1 q2=>Ze Zl (Zb q0 (Zb q1 (Zb q2 Zf))) mixed {} Tryz.func36 (hvc:=?_)),
 (fun q0=>Ze Zl (Zb q0 Zf) mixed {loops:=[(0,[.reg 1 (.dat Iq),.reg 5 (.dat Iq)])]} Tryz.func87 (hvc:=?_)),
 (Ze Zl Zf mixed {} Tryz.func173 (hvc:=?_)),
 (fun q0=>Ze Zl (Zb q0 Zf) mixed {} Tryz.func74 (hvc:=?_)),
 (fun q0=>Ze Zl (Zb q0 Zf) mixed {loops:=[(0,[.reg 1 (.dat Iq),.reg 5 (.dat Iq)])]} Tryz.func37 (hvc:=?_)),
 (fun q0=>Ze XK (Zb q0 Zf) mixed {loops:=[(0,[.reg 4 (.dat Iq),.ent 0 (nat_lit 170) Zb7])]} Tryz.func104 (hvc:=?_)),
 (Ze Zl Zf mixed {} Tryz.func300 (hvc:=?_)),
 (Ze Zl Zf mixed {loops:=[(0,[.reg 4 (.dat Iq),.ent 0 (nat_lit 9) (.flat Zyy.ety)])]} Tryz.func105 (hvc:=?_)),
 (fun q0=>Ze Zl (Zb q0 Zf) mixed {} Tryz.func375 (hvc:=?_)),
 (fun q0=>Ze Zl (Zb q0 Zf) mixed {} Tryz.func397 (hvc:=?_)),
 (fun q0=>Ze Zl (Zb q0 Zf) mixed {} Tryz.func140 (hvc:=?_)),
 (fun q0=>Ze Zl (Zb q0 Zf) mixed {} Tryz.func349 (hvc:=?_)),
 (fun q0=>Ze Zl (Zb q0 Zf) mixed {loops:=[(0,[.reg 8 (.dat Iq)])]} Tryz.func391 (hvc:=?_)),
 (fun q0=>Ze Zl (Zb q0 Zf) mixed {loops:=[(0,[.reg 8 (.dat Iq)])]} Tryz.func391 (hvc:=?_)),
 (Ze Zl Zf mixed {loops:=[(0,[.reg 3 (.dat Iq),.reg 4 (.dat Iq)])]} Tryz.func400 (hvc:=?_)),
 (fun q1 q0=>Ze Zl (Zb q1 (Zb q0 Zf)) mixed {loops:=[(0,[.reg 4 (.dat Iq)])]} Tryz.func91 (hvc:=?_)),
 (fun q0 q1 q2=>Ze Zl (Zb q0 (Zb q1 (Zb q2 Zf))) mixed {loops:=[(0,[.reg 5 (.own (.ol 9 (.flat (.str)))),.reg 6 (.dat Iq)]),(2,[.reg 7 (.own (.ol 9 (.flat (.str)))),.reg 8 (.dat Iq)]),(4,[.reg 10 (.dat Iq),.ent 6 (nat_lit 2) (.flat Zum.ety)]),(6,[.reg 12 (.dat Iq),.ent 6 (nat_lit 2) (.flat Zum.ety)]),(8,[.reg 13 (.dat Iq)])]} Tryz.func174 (hvc:=?_)),
 (fun q0=>Ze Zl (Zb q0 Zf) mixed {} Tryz.func134 (hvc:=?_)),
 (fun q0=>Ze Zl (Zb q0 Zf) mixed {loops:=[(0,[.reg 6 (.dat Iq)]),(2,[.reg 7 (.dat Iq)])]} Tryz.func175 (hvc:=?_)),
 (Ze Zl Zf mixed {loops:=[(0,[.reg 4 (.dat Iq),.ent 1 (nat_lit 2) (.flat Zum.ety)])]} Tryz.func343 (hvc:=?_)),
 (fun q0 q1=>Ze Zl (Zb q0 (Zb q1 Zf)) mixed {loops:=[(0,[.reg 5 (.dat Iq),.reg 6 (.dat Iq)]),(2,[.reg 8 (.dat Iq)])],draws:=[(12,[0,1,0,7,15,31,0,64,255],.op 0 (.op 1 (.op 2 (.op 3 (.op 4 (.op 5 (.op 6 (.op 7 (.op 8 (.done))))))))))]} Tryz.func341 (hvc:=?_)),
 (fun q0=>Ze Zl (Zb q0 Zf) mixed {loops:=[(0,[.reg 6 (.dat Iq)])]} Tryz.func96 (hvc:=?_)),
 (Ze Zl Zf mixed {loops:=[(0,[.reg 3 (.own (.ol 232 (.flat (ZeQ)))),.reg 4 (.dat Iq)]),(2,[.reg 3 (.own (.ol 232 (.flat (ZeQ)))),.reg 6 (.dat Iq)]),(4,[.reg 3 (.own (.ol 232 (.flat (ZeQ)))),.reg 7 (.dat Iq)])],draws:=[(13,[0,0,0,4,0,28,60,124,0,256,0,1792,3840,7936,16128,32766,65534,131071,262143],.op 0 (.op 1 (.op 2 (.op 3 (.op 4 (.op 5 (.op 6 (.op 7 (.op 8 (.op 9 (.op 10 (.op 11 (.op 12 (.op 13 (.op 14 (.op 15 (.alt 16 (.alt 17 (.op 18 (.done)) (.done)) (.done))))))))))))))))))]} Tryz.func100 (hvc:=?_)),
 (fun q2 q0 q1 q3=>Ze Zl (Zb q2 (Zb q0 (Zb q1 (Zb q3 Zf)))) mixed {loops:=[(0,[.reg 9 (.dat Iq),.ent 2 (nat_lit 2) (.flat (Ty.int IntKind.i64))]),(2,[.reg 10 (.dat Iq),.ent 2 (nat_lit 2) (.flat (Ty.int IntKind.i64))])],draws:=[(8,[0,0,2,0,14,30,63,127,0,256,0,1024,0,0,0,24576,57344,126976,258048,524032,1048575,2097151,4194303],.op 0 (.op 1 (.op 2 (.op 3 (.op 4 (.op 5 (.op 6 (.op 7 (.op 8 (.op 9 (.op 10 (.op 11 (.op 12 (.op 13 (.op 14 (.op 15 (.op 16 (.op 17 (.op 18 (.alt 19 (.op 20 (.op 21 (.alt 22 (.done) (.done)))) (.done))))))))))))))))))))),(12,[0,0,2,0,14,30,63,127,0,0,768,1792,4095,8191,16383],.op 0 (.op 1 (.op 2 (.op 3 (.op 4 (.op 5 (.op 6 (.op 7 (.op 8 (.op 9 (.op 10 (.op 11 (.op 12 (.op 13 (.alt 14 (.done) (.done))))))))))))))))]} Tryz.func296 (hvc:=?_)),
 (Ze Zl Zf mixed {loops:=[(0,[.reg 5 (.dat Iq)])]} Tryz.func99 (hvc:=?_)),
 (fun q3 q2 q4 q0 q1 q5=>Ze Zl (Zb q3 (Zb q2 (Zb q4 (Zb q0 (Zb q1 (Zb q5 Zf)))))) mixed {draws:=[(5,[0,0,0,6,0,31,0,64,255,511,1023],.op 0 (.op 1 (.op 2 (.op 4 (.op 6 (.op 7 (.alt 3 (.alt 5 (.op 8 (.op 9 (.op 10 (.done)))) (.done)) (.done))))))))]} Tryz.func180 (hvc:=?_)),
 (fun q3 q2 q4 q1 q0=>Ze Zl (Zb q3 (Zb q2 (Zb q4 (Zb q1 (Zb q0 Zf))))) mixed {} Tryz.func93 (hvc:=?_)),
 (fun q0 q1=>Ze Zl (Zb q0 (Zb q1 Zf)) mixed {loops:=[(0,[.reg 16 (.dat (.bool)),.reg 18 (.dat Iq),.cell 1017 0 Iq,.cell 1017 1 Iq,.cell 1017 2 Iq,.cell 1017 3 Iq,.cell 1017 4 Iq]),(2,[.reg 16 (.dat (.bool)),.reg 19 (.dat Iq),.cell 1017 0 Iq,.cell 1017 1 Iq,.cell 1017 2 Iq,.cell 1017 3 Iq,.cell 1017 4 Iq])],draws:=[(14,[0,0,0,0,8,0,32,120,248,511,1023,2047,2047,0,0,28671,65535],.op 0 (.op 1 (.op 2 (.op 3 (.op 4 (.op 5 (.op 6 (.op 7 (.op 8 (.alt 9 (.op 10 (.op 11 (.op 12 (.alt 13 (.alt 14 (.alt 15 (.alt 16 (.done) (.done)) (.done)) (.done)) (.alt 14 (.alt 13 (.alt 15 (.alt 16 (.done) (.done)) (.done)) (.done)) (.done)))))) (.alt 13 (.alt 9 (.op 10 (.op 11 (.op 12 (.alt 14 (.alt 15 (.alt 16 (.done) (.done)) (.done)) (.done))))) (.alt 14 (.alt 9 (.op 10 (.op 11 (.op 12 (.alt 15 (.alt 16 (.done) (.done)) (.done))))) (.done)) (.done))) (.alt 14 (.alt 9 (.op 10 (.op 11 (.op 12 (.alt 13 (.alt 15 (.alt 16 (.done) (.done)) (.done)) (.done))))) (.alt 13 (.alt 9 (.op 10 (.op 11 (.op 12 (.alt 15 (.alt 16 (.done) (.done)) (.done))))) (.done)) (.done))) (.done))))))))))))),(15,[0,1,0,4,15,31,63,0,128,511,0,1024,0,4096,15360,31744,64512,0,131072,523264,1048575,0,4194303],.op 0 (.op 1 (.op 2 (.op 3 (.op 4 (.op 5 (.op 6 (.op 7 (.op 8 (.op 9 (.op 10 (.op 11 (.op 12 (.op 13 (.op 14 (.op 15 (.op 16 (.op 17 (.op 18 (.op 19 (.op 20 (.alt 21 (.alt 22 (.done) (.done)) (.done))))))))))))))))))))))),(21,[0,0,1,7],.op 0 (.op 1 (.op 2 (.alt 3 (.done) (.done)))))]} Tryz.func44 (hvc:=?_)),
 (Ze Zl Zf mixed {} Tryz.func178 (hvc:=?_)),
 (fun q1 q0=>Ze Zl (Zb q1 (Zb q0 Zf)) mixed {} Tryz.func67 (hvc:=?_)),
 (Ze Zl Zf mixed {draws:=[(1,[0,0,2,7,0,0,32,127,0,0,512,2047,4095,8191],.op 1 (.op 2 (.op 5 (.op 9 (.ld 6 (.ld 10 (.alt 0 (.alt 3 (.alt 4 (.alt 7 (.alt 8 (.alt 11 (.op 12 (.alt 13 (.done) (.done))) (.done)) (.done)) (.alt 8 (.alt 7 (.alt 11 (.op 12 (.alt 13 (.done) (.done))) (.done)) (.done)) (.done))) (.alt 8 (.alt 4 (.alt 7 (.alt 11 (.op 12 (.alt 13 (.done) (.done))) (.done)) (.done)) (.done)) (.done))) (.alt 4 (.alt 3 (.alt 7 (.alt 8 (.alt 11 (.op 12 (.alt 13 (.done) (.done))) (.done)) (.done)) (.alt 8 (.alt 7 (.alt 11 (.op 12 (.alt 13 (.done) (.done))) (.done)) (.done)) (.done))) (.alt 8 (.alt 3 (.alt 7 (.alt 11 (.op 12 (.alt 13 (.done) (.done))) (.done)) (.done)) (.done)) (.done))) (.alt 8 (.alt 3 (.alt 4 (.alt 7 (.alt 11 (.op 12 (.alt 13 (.done) (.done))) (.done)) (.done)) (.done)) (.alt 4 (.alt 3 (.alt 7 (.alt 11 (.op 12 (.alt 13 (.done) (.done))) (.done)) (.done)) (.done)) (.done))) (.done)))) (.alt 4 (.alt 0 (.alt 3 (.alt 7 (.alt 8 (.alt 11 (.op 12 (.alt 13 (.done) (.done))) (.done)) (.done)) (.alt 8 (.alt 7 (.alt 11 (.op 12 (.alt 13 (.done) (.done))) (.done)) (.done)) (.done))) (.alt 8 (.alt 3 (.alt 7 (.alt 11 (.op 12 (.alt 13 (.done) (.done))) (.done)) (.done)) (.done)) (.done))) (.alt 8 (.alt 0 (.alt 3 (.alt 7 (.alt 11 (.op 12 (.alt 13 (.done) (.done))) (.done)) (.done)) (.done)) (.done)) (.done))) (.alt 8 (.alt 0 (.alt 3 (.alt 4 (.alt 7 (.alt 11 (.op 12 (.alt 13 (.done) (.done))) (.done)) (.done)) (.done)) (.alt 4 (.alt 3 (.alt 7 (.alt 11 (.op 12 (.alt 13 (.done) (.done))) (.done)) (.done)) (.done)) (.done))) (.alt 4 (.alt 0 (.alt 3 (.alt 7 (.alt 11 (.op 12 (.alt 13 (.done) (.done))) (.done)) (.done)) (.done)) (.done)) (.done))) (.done))))))))))]} Tryz.func46 (hvc:=?_))⟩
 all_goals
  intro a
  repeat rcases a with ⟨_,a⟩
  rintro K ⟨r,h,hK⟩
  repeat'
    conv=>whnf
    first
    | with_reducible refine Ztc ?_
    | with_reducible refine Zfq (by assumption) (by assumption) (by assumption) ?_
    | with_reducible refine ZhT (by assumption) ?_
    | with_reducible refine Zfr (by assumption) ?_
    | (with_reducible refine shD ?_);first | refine Zpf h (fun h=>?_) (fun h=>?_) | refine ZsB h (fun h=>?_) (fun h=>?_)
    | (with_reducible refine ZtW ?_);first | refine Zun ?_ | refine Zkg ?_
    | (with_reducible refine ZxM ?_);first | refine ZrY h (fun h=>?_) (fun h=>?_) | refine Zub h (fun h=>?_) (fun h=>?_)
    | (with_reducible refine ZtV ?_);(refine ⟨fun hd=>?_,?_⟩)<;>try subst hd
    | (with_reducible refine ZxO ?_);first | with_reducible refine Zbe h (fun x hb h=>?_) | refine Zfr (by assumption) ?_ | with_reducible refine pG h (fun hp h=>?_) | with_reducible refine pA h (fun x ha hb hx h=>?_) | with_reducible refine pB h (fun x hb h=>?_) | refine Zbe h (fun x hb h=>?_)
    | (with_reducible refine ZxL ?_);first | with_reducible refine vAt h (fun x ha hb hx h=>?_) | refine Zfq (by assumption) (by assumption) (by assumption) ?_ | with_reducible refine pG h (fun hp h=>?_) | with_reducible refine pA h (fun x ha hb hx h=>?_) | with_reducible refine pB h (fun x hb h=>?_) | refine vAt h (fun x ha hb hx h=>?_)
    | (with_reducible refine ZtU ?_);first | with_reducible refine ZnZ h (fun x hb h=>?_) | refine ZhT (by assumption) ?_ | with_reducible refine pG h (fun hp h=>?_) | with_reducible refine pA h (fun x ha hb hx h=>?_) | with_reducible refine pB h (fun x hb h=>?_) | refine ZnZ h (fun x hb h=>?_)
    | with_reducible refine ZxN ?_
    | (with_reducible refine Zp0 ?_);refine Zqi h hK ?_;clear h hK;intro I μ v r h hK;(repeat rcases v with ⟨_,v⟩);(try dsimp only at h)
    | with_reducible refine ⟨by assumption,?_⟩
    | with_reducible refine orL ?_
    | with_reducible refine .inr ?_
    | (with_reducible refine ZtX ?_);first | refine ⟨?_,True.intro⟩ | refine ⟨?_,?_⟩
    | refine ⟨by kernel_rfl,?_⟩
    | refine ⟨by decide,?_⟩
    | with_reducible refine Zuo h (fun hp h=>?_)
    | intro fp
    | exact trivial
    | with_reducible exact Zs5 h
    | (refine pS h (fun e=>?_));subst e;(repeat (first | exact hK | exact ⟨⟨rfl,rfl⟩,hK.1 _ rfl⟩ | (refine pR hK (fun e hK=>?_));subst e));done
    | refine Zuo h (fun hp h=>?_)
    | refine ⟨by assumption,?_⟩
    | with_reducible refine pG h (fun hp h=>?_) | with_reducible refine pA h (fun x ha hb hx h=>?_) | with_reducible refine pB h (fun x hb h=>?_)
    | refine pG h (fun hp h=>?_)
    | fail
theorem w89:Sq 133 c89:=by
 refine Ze Zl Zf mixed {loops:=[(0,[.reg 5 (.dat Iq)])]} (fn:=Tryz.f133) Tryz.func133 (by kernel_rfl) (by kernel_rfl) ?_
 rintro ⟨list0,x0,⟨⟩⟩ K ⟨r,h,hK⟩
 change ZEw list0 x0=some r at h
 unfold ZEw at h
 conv=>whnf
 refine ZBg h ?_
 rintro I0 μ0 ⟨i0,⟨⟩⟩ zs0 h hI0 hR0
 change ZEj list0 x0 i0=some zs0 at h
 unfold ZEj at h
 conv=>whnf
 refine Zpf h (fun h=>?_) (fun h=>?_)
 conv=>whnf
 refine vAt h (fun x1 he1a he1b he1x h=>?_)
 conv=>whnf
 refine Zpf h (fun h=>?_) (fun h=>?_)
 conv=>whnf
 cases h
 obtain rfl:=hR0 _ rfl
 exact hK
 conv=>whnf
 cases h
 exact ⟨⟨rfl,rfl⟩,hI0 _ rfl⟩
 conv=>whnf
 cases h
 obtain rfl:=hR0 _ rfl
 exact hK
end Go.Proofs.YtclfgjepbamnlaaGreatDoor
