/-
  The functions keep their contracts, if what they call does. Printed by program.
-/
import Derived.Test.YtnnbgbgapogckaaGreatDoorM
import Derived.KernelRfl
namespace Go.Proofs.YtnnbgbgapogckaaGreatDoor
open Go Go.Sx
set_option maxRecDepth 100000
set_option maxHeartbeats 6400000
set_option linter.unusedVariables false
set_option linter.unusedSimpArgs false
structure Ws2:Prop where
 w158:Sq 119 c148→Sq 83 c116→Sq 191 ZAY→Sq 170 c157→Sq 120 ZAM→Sq 121 ZAw→Sq 117 ZBm
 w89:Sq 309 c88→Sq 294 c89
 w92:Sq 292 c73→Sq 293 c86→Sq 294 c89→Sq 295 c91→Sq 278 c90→Sq 159 c66→Sq 275 c92
 w90:Sq 274 c68→Sq 278 c90
 w107:Sq 191 ZAY→Sq 159 c66→Sq 112 c107
 w159:Sq 116 c130→Sq 83 c116→Sq 117 ZBm→Sq 118 c152→Sq 119 c148→Sq 120 ZAM→Sq 121 ZAw→Sq 122 ZBa→Sq 58 c159
 w147:Sq 151 ZBf→Sq 152 c146→Sq 81 ZBk
 w143:Sq 247 ZBi→Sq 213 c143
 w119:Sq 82 ZA4→Sq 83 c116→Sq 84 Zy7→Sq 31 c119
 w112:Sq 157 ZA1
 w83:Sq 307 c81→Sq 308 c82→Sq 306 c83
 w123:Sq 134 ZAL→Sq 234 ZA6
 w73:Sq 292 c73
 w106:Sq 191 ZAY
 w133:Sq 265 ZBb→Sq 242 ZBc
 w165:Sq 18 ZAN
 w166:Sq 26 ZBp
 w169:Sq 85 c167→Sq 86 c168→Sq 32 ZDR
 w120:Sq 232 ZAK
 w99:Sq 296 c98→Sq 276 c99
 w85:Sq 323 c84→Sq 305 c85
 w70:Sq 249 c69→Sq 230 c70
 w132:Sq 265 ZBb
 w98:Sq 297 c97→Sq 296 c98
 w113:Sq 157 ZA1→Sq 218 ZA2
 w65:Sq 42 c1→Sq 87 c19→Sq 88 c64→Sq 44 c2→Sq 89 c38→Sq 33 c65
 w45:Sq 205 c44→Sq 149 c45
 w25:Sq 318 c24→Sq 300 c25
 w16:Sq 161 c16
 w27:Sq 114 c21→Sq 285 c26→Sq 261 c27
 w9:Sq 44 c2→Sq 264 c7→Sq 239 c9
 w20:Sq 147 c20
 w51:Sq 280 c50→Sq 253 c51
 w13:Sq 96 c13
 w18:Sq 197 c10→Sq 198 c12→Sq 139 c14→Sq 164 c17→Sq 125 c18
 w19:Sq 44 c2→Sq 125 c18→Sq 161 c16→Sq 87 c19
 w56:Sq 166 c53→Sq 167 c54→Sq 168 c55→Sq 91 c56
 w55:Sq 161 c16→Sq 168 c55
 w62:Sq 91 c56→Sq 96 c13→Sq 171 c60→Sq 172 c61→Sq 173 c57→Sq 174 c58→Sq 175 c59→Sq 168 c55→Sq 94 c62
 w64:Sq 44 c2→Sq 89 c38→Sq 39 c63→Sq 88 c64
 w61:Sq 173 c57→Sq 139 c14→Sq 96 c13→Sq 174 c58→Sq 161 c16→Sq 175 c59→Sq 172 c61
set_option maxHeartbeats 100000000 in
theorem ws2:Ws2:=by
 refine ⟨(fun q1 q2 q3 q0 q5 q4=>Zm VX (Zg q1 (Zg q2 (Zg q3 (Zg q0 (Zg q5 (Zg q4 Zu)))))) mixed {draws:=[(2,[0,1,3,7,15,0,32,127,255,0,1023],.op 0 (.op 1 (.op 2 (.op 3 (.op 5 (.op 6 (.alt 4 (.op 7 (.op 8 (.alt 9 (.alt 10 (.done) (.done)) (.done)))) (.alt 9 (.alt 4 (.op 7 (.op 8 (.alt 10 (.done) (.done)))) (.done)) (.done))))))))),(4,[0,1,3,7,15,31,0,64,192,448,960,2047,4095,8191],.op 0 (.op 1 (.op 2 (.op 3 (.op 4 (.op 6 (.op 7 (.op 8 (.op 9 (.op 10 (.alt 5 (.alt 11 (.op 12 (.op 13 (.done))) (.done)) (.done)))))))))))),(5,[0,0,2,6,14,30,0,64,0,256,0,1024,0,7168,16320,32704,65534,131071,262143,524287,1048575],.op 0 (.op 1 (.op 2 (.op 3 (.op 4 (.op 5 (.op 6 (.op 7 (.op 8 (.op 9 (.op 10 (.op 11 (.op 12 (.alt 13 (.op 14 (.alt 15 (.alt 16 (.op 17 (.op 18 (.op 19 (.alt 20 (.done) (.done))))) (.done)) (.done))) (.done))))))))))))))),(6,[0,0,2,6,14,30,0,64,192,510,1023,2047,4095,8191],.op 0 (.op 1 (.op 2 (.op 3 (.op 4 (.op 5 (.op 6 (.op 7 (.alt 8 (.alt 9 (.op 10 (.op 11 (.op 12 (.alt 13 (.done) (.done))))) (.done)) (.done))))))))))]} Tryz.func117 (hvc:=?_)),
 (fun q0=>Zm ZL (Zg q0 Zu) mixed {} Tryz.func294 (hvc:=?_)),
 (fun q4 q3 q2 q0 q1 q5=>Zm ZL (Zg q4 (Zg q3 (Zg q2 (Zg q0 (Zg q1 (Zg q5 Zu)))))) mixed {draws:=[(2,[0,1,3,7,15,31,63,127,255,511,1023,2047,4095,8191,16383,32767,65535,32767,163839,524287,1048575,2097151,4194303,8388607,16777215,33554431,67108863,134217727,134217727,402653183,1073741823,2147483647,4294967295,8589934591,17179869183,8589934591,42949672959,137438953471,274877906943,549755813887],.op 0 (.op 1 (.op 2 (.op 3 (.op 4 (.op 5 (.op 6 (.op 7 (.op 8 (.op 9 (.op 10 (.op 11 (.alt 12 (.op 13 (.op 14 (.op 15 (.op 16 (.op 17 (.alt 18 (.op 19 (.op 20 (.op 21 (.op 22 (.op 23 (.op 24 (.op 25 (.op 26 (.op 27 (.op 28 (.op 29 (.alt 30 (.op 31 (.op 32 (.op 33 (.op 34 (.op 35 (.op 36 (.op 37 (.op 38 (.op 39 (.done)))))))))) (.done))))))))))))) (.done))))))) (.done)))))))))))))),(3,[0,1,3,7,15,31,63,127,255,511,1023,2047,4095,2047,10239,32767,65535,131071,262143,262143,786431,2097151,4194303,8388607],.op 0 (.op 1 (.alt 2 (.op 3 (.op 4 (.op 5 (.op 6 (.alt 7 (.op 8 (.op 9 (.op 10 (.op 11 (.op 12 (.op 13 (.alt 14 (.op 15 (.op 16 (.op 17 (.op 18 (.op 19 (.op 20 (.alt 21 (.op 22 (.op 23 (.done))) (.done)))))))) (.done)))))))) (.done)))))) (.done))))]} Tryz.func275 (hvc:=?_)),
 (fun q0=>Zm ZL (Zg q0 Zu) mixed {} Tryz.func278 (hvc:=?_)),
 (fun q0 q1=>Zm ZL (Zg q0 (Zg q1 Zu)) mixed {} Tryz.func112 (hvc:=?_)),
 (fun q6 q1 q4 q0 q2 q5 q3 q7=>Zm VX (Zg q6 (Zg q1 (Zg q4 (Zg q0 (Zg q2 (Zg q5 (Zg q3 (Zg q7 Zu)))))))) mixed {draws:=[(4,[0,1,3,0,8,24,0,64,248,504,1016,0,2048,8191,16383,32767],.op 0 (.op 1 (.op 2 (.op 3 (.op 4 (.op 6 (.op 7 (.op 11 (.op 12 (.alt 5 (.op 8 (.op 9 (.op 10 (.op 13 (.op 14 (.alt 15 (.done) (.done))))))) (.done))))))))))),(11,[0,1,3,0,8,31,63,0,255],.op 0 (.op 1 (.op 3 (.op 4 (.alt 2 (.op 5 (.op 6 (.alt 7 (.alt 8 (.done) (.done)) (.done)))) (.alt 7 (.alt 2 (.op 5 (.op 6 (.alt 8 (.done) (.done)))) (.done)) (.done))))))),(17,[0,1,0,4,0,16,48,127,255],.op 0 (.op 1 (.op 2 (.op 3 (.op 4 (.op 5 (.alt 6 (.op 7 (.alt 8 (.done) (.done))) (.done))))))))]} Tryz.func58 (hvc:=?_)),
 (fun q1 q0=>Zm ZL (Zg q1 (Zg q0 Zu)) mixed {} Tryz.func81 (hvc:=?_)),
 (fun q0=>Zm ZL (Zg q0 Zu) mixed {} Tryz.func213 (hvc:=?_)),
 (fun q1 q0 q2=>Zm ZL (Zg q1 (Zg q0 (Zg q2 Zu))) mixed {loops:=[(0,[.reg 32 (.dat Iq),.ent 1 (nat_lit 2) (.flat Znz.ety)]),(2,[.reg 50 (.dat Iq)])],draws:=[(13,[0,0,0,6,14,31,63],.op 0 (.op 1 (.op 2 (.op 3 (.op 4 (.alt 5 (.op 6 (.done)) (.done)))))))]} Tryz.func31 (hvc:=?_)),
 (Zm ZL Zu mixed {} Tryz.func157 (hvc:=?_)),
 (fun q1 q0=>Zm ZL (Zg q1 (Zg q0 Zu)) mixed {} Tryz.func306 (hvc:=?_)),
 (fun q0=>Zm VX (Zg q0 Zu) mixed {loops:=[(0,[.reg 3 (.own (.ol 322 (ZeG))),.reg 8 (.dat Iq)])],draws:=[(5,[0,0,2,6,0,16,62,0,128,510,1022,2046,4095,8191],.op 0 (.op 1 (.op 2 (.op 4 (.op 5 (.op 7 (.op 8 (.alt 3 (.alt 6 (.alt 9 (.op 10 (.alt 11 (.alt 12 (.op 13 (.done)) (.done)) (.done))) (.done)) (.done)) (.done)))))))))]} Tryz.func234 (hvc:=?_)),
 (Zm ZL Zu mixed {} Tryz.func292 (hvc:=?_)),
 (Zm ZL Zu mixed {} Tryz.func191 (hvc:=?_)),
 (fun q0=>Zm ZL (Zg q0 Zu) mixed {} Tryz.func242 (hvc:=?_)),
 (Zm ZL Zu mixed {draws:=[(3,[0,1,3,7,0,16,48,112,240,511],.op 0 (.op 1 (.op 2 (.op 3 (.op 4 (.op 5 (.op 6 (.op 7 (.op 8 (.op 9 (.done))))))))))),(4,[0,0,2,6,14,0,32,96,224,510,1022,2046,4095,8191],.op 0 (.op 1 (.op 2 (.op 3 (.op 4 (.op 5 (.op 6 (.op 7 (.op 8 (.op 9 (.op 10 (.alt 11 (.op 12 (.op 13 (.done))) (.done)))))))))))))]} Tryz.func18 (hvc:=?_)),
 (Zm ZL Zu mixed {loops:=[(0,[.reg 5 (.dat Iq)])],draws:=[(6,[0,0,3,7,0,0,48,112,255],.op 0 (.op 1 (.op 2 (.op 3 (.op 4 (.op 5 (.op 6 (.op 7 (.op 8 (.done))))))))))]} Tryz.func26 (hvc:=?_)),
 (fun q0 q1=>Zm ZL (Zg q0 (Zg q1 Zu)) mixed {loops:=[(0,[.reg 5 (.dat Iq)])],draws:=[(6,[0,1,0,7,15,0,32,0,224,480,1023,2047],.op 0 (.op 1 (.op 2 (.op 3 (.op 4 (.op 5 (.op 6 (.op 7 (.op 8 (.op 9 (.alt 10 (.op 11 (.done)) (.done))))))))))))]} Tryz.func32 (hvc:=?_)),
 (Zm ZL Zu mixed {} Tryz.func232 (hvc:=?_)),
 (fun q0=>Zm ZL (Zg q0 Zu) mixed {} Tryz.func276 (hvc:=?_)),
 (fun q0=>Zm ZL (Zg q0 Zu) mixed {} Tryz.func305 (hvc:=?_)),
 (fun q0=>Zm ZL (Zg q0 Zu) mixed {} Tryz.func230 (hvc:=?_)),
 (Zm ZL Zu mixed {loops:=[(0,[.reg 13 (.dat Iq)])],draws:=[(6,[0,0,3,7,0,0,48,112,255],.op 0 (.op 1 (.op 2 (.op 3 (.op 4 (.op 5 (.op 6 (.op 7 (.op 8 (.done))))))))))]} Tryz.func265 (hvc:=?_)),
 (fun q0=>Zm ZL (Zg q0 Zu) mixed {loops:=[(0,[.reg 8 (.dat Iq)])]} Tryz.func296 (hvc:=?_)),
 (fun q0=>Zm ZL (Zg q0 Zu) mixed {loops:=[(0,[.reg 8 (.dat Iq)])]} Tryz.func218 (hvc:=?_)),
 (fun q2 q1 q0 q3 q4=>Zm VX (Zg q2 (Zg q1 (Zg q0 (Zg q3 (Zg q4 Zu))))) mixed {} Tryz.func33 (hvc:=?_)),
 (fun q0=>Zm ZL (Zg q0 Zu) mixed {} Tryz.func149 (hvc:=?_)),
 (fun q0=>Zm ZL (Zg q0 Zu) mixed {loops:=[(0,[.reg 5 (.dat Iq),.cell 1004 0 Iq,.cell 1004 1 Iq])],draws:=[(3,[0,1,3,7,0,16,48,112,255,0,1023],.op 0 (.op 1 (.op 2 (.op 3 (.op 4 (.op 5 (.op 6 (.op 7 (.op 8 (.alt 9 (.alt 10 (.done) (.done)) (.done))))))))))),(7,[0,1,0,4,0,28,60,127,255,511],.op 0 (.op 1 (.op 2 (.op 3 (.op 4 (.op 5 (.op 6 (.op 7 (.op 8 (.alt 9 (.done) (.done))))))))))),(8,[0,1,0,4,0,28,60,127,255,511],.op 0 (.op 1 (.op 2 (.op 3 (.op 4 (.op 5 (.op 6 (.op 7 (.op 8 (.alt 9 (.done) (.done)))))))))))]} Tryz.func300 (hvc:=?_)),
 (Zm ZL Zu mixed {} Tryz.func161 (hvc:=?_)),
 (fun q1 q0=>Zm ZL (Zg q1 (Zg q0 Zu)) mixed {} Tryz.func261 (hvc:=?_)),
 (fun q1 q0=>Zm VX (Zg q1 (Zg q0 Zu)) mixed {} Tryz.func239 (hvc:=?_)),
 (Zm ZL Zu mixed {loops:=[(0,[.reg 3 (.dat Iq)])]} Tryz.func147 (hvc:=?_)),
 (fun q0=>Zm VX (Zg q0 Zu) mixed {loops:=[(0,[.reg 3 (.own (.ol 322 (ZeG))),.reg 4 (.dat Iq)])]} Tryz.func253 (hvc:=?_)),
 (Zm ZL Zu mixed {loops:=[(0,[.reg 3 (.own (.ol 227 (.flat (JJ)))),.reg 4 (.dat Iq)]),(2,[.reg 3 (.own (.ol 227 (.flat (JJ)))),.reg 6 (.dat Iq)]),(4,[.reg 3 (.own (.ol 227 (.flat (JJ)))),.reg 7 (.dat Iq)])],draws:=[(13,[0,0,0,4,0,28,60,124,0,256,0,1792,3840,7936,16128,32766,65534,131071,262143],.op 0 (.op 1 (.op 2 (.op 3 (.op 4 (.op 5 (.op 6 (.op 7 (.op 8 (.op 9 (.op 10 (.op 11 (.op 12 (.op 13 (.op 14 (.op 15 (.alt 16 (.alt 17 (.op 18 (.done)) (.done)) (.done))))))))))))))))))]} Tryz.func96 (hvc:=?_)),
 (fun q2 q3 q1 q0=>Zm VX (Zg q2 (Zg q3 (Zg q1 (Zg q0 Zu)))) mixed {loops:=[(0,[.reg 9 (.own (.ol 58 (ZgI))),.reg 10 (.dat Iq),.cell 0 0 (.sl (.int .u8)),.cell 0 1 Iq,.cell 0 2 Iq])]} Tryz.func125 (hvc:=?_)),
 (fun q0 q1 q2=>Zm VX (Zg q0 (Zg q1 (Zg q2 Zu))) mixed {draws:=[(7,[0,1,0,0,8,0,56,120,248,504,0,2040,4095,8191,16383],.op 0 (.op 2 (.op 3 (.op 4 (.op 5 (.op 6 (.op 7 (.op 8 (.ld 1 (.alt 9 (.alt 10 (.alt 11 (.op 12 (.op 13 (.alt 14 (.done) (.done)))) (.done)) (.done)) (.alt 10 (.alt 9 (.alt 11 (.op 12 (.op 13 (.alt 14 (.done) (.done)))) (.done)) (.done)) (.done)))))))))))),(11,[0,1,0,7,15,31,0,0,128,448,960,2047,4095],.op 0 (.op 2 (.op 7 (.ld 1 (.op 3 (.op 4 (.alt 5 (.alt 6 (.alt 8 (.op 9 (.op 10 (.op 11 (.alt 12 (.done) (.done))))) (.done)) (.alt 8 (.alt 6 (.op 9 (.op 10 (.op 11 (.alt 12 (.done) (.done))))) (.done)) (.done))) (.alt 6 (.alt 5 (.alt 8 (.op 9 (.op 10 (.op 11 (.alt 12 (.done) (.done))))) (.done)) (.alt 8 (.op 9 (.op 10 (.alt 5 (.op 11 (.alt 12 (.done) (.done))) (.done)))) (.done))) (.alt 8 (.alt 5 (.alt 6 (.op 9 (.op 10 (.op 11 (.alt 12 (.done) (.done))))) (.done)) (.alt 6 (.op 9 (.op 10 (.alt 5 (.op 11 (.alt 12 (.done) (.done))) (.done)))) (.done))) (.done)))))))))),(13,[0,1,0,7,15,31,0,64,0,448,960,1984,4032,8128,0,16384,49152,131071,262143],.op 0 (.op 2 (.op 6 (.op 8 (.op 14 (.ld 1 (.op 3 (.op 4 (.ld 7 (.op 9 (.op 10 (.alt 5 (.alt 11 (.op 12 (.op 13 (.alt 15 (.op 16 (.op 17 (.alt 18 (.done) (.done)))) (.done)))) (.alt 15 (.op 16 (.alt 11 (.op 12 (.op 13 (.op 17 (.alt 18 (.done) (.done))))) (.done))) (.done))) (.alt 11 (.op 12 (.op 13 (.alt 5 (.alt 15 (.op 16 (.op 17 (.alt 18 (.done) (.done)))) (.done)) (.alt 15 (.op 16 (.alt 5 (.op 17 (.alt 18 (.done) (.done))) (.done))) (.done))))) (.alt 15 (.op 16 (.alt 5 (.alt 11 (.op 12 (.op 13 (.op 17 (.alt 18 (.done) (.done))))) (.done)) (.alt 11 (.op 12 (.op 13 (.alt 5 (.op 17 (.alt 18 (.done) (.done))) (.done)))) (.done)))) (.done)))))))))))))))]} Tryz.func87 (hvc:=?_)),
 (fun q0 q2 q1=>Zm VX (Zg q0 (Zg q2 (Zg q1 Zu))) mixed {loops:=[(0,[.reg 4 (.dat Iq),.cello 1003 4 (.ol 58 (ZgI))])],draws:=[(1,[0,1,3,0,8,31,63,0,255],.op 0 (.op 1 (.op 3 (.op 4 (.alt 2 (.alt 5 (.op 6 (.alt 7 (.alt 8 (.done) (.done)) (.done))) (.alt 7 (.alt 5 (.op 6 (.alt 8 (.done) (.done))) (.done)) (.done))) (.alt 7 (.alt 2 (.alt 5 (.op 6 (.alt 8 (.done) (.done))) (.done)) (.done)) (.done))))))),(5,[0,1,0,4,0,28,60,124,252,511,1023,2047],.op 0 (.op 1 (.op 2 (.op 3 (.op 4 (.op 5 (.op 6 (.alt 7 (.alt 8 (.alt 9 (.op 10 (.alt 11 (.done) (.done))) (.done)) (.done)) (.done)))))))))]} Tryz.func91 (hvc:=?_)),
 (fun q0=>Zm ZL (Zg q0 Zu) mixed {draws:=[(1,[0,1,3,0,8,31,0,64,255,0,512,2047,4095,8191],.op 0 (.op 1 (.op 3 (.op 4 (.op 6 (.op 7 (.op 9 (.op 10 (.alt 2 (.alt 5 (.alt 8 (.alt 11 (.op 12 (.alt 13 (.done) (.done))) (.done)) (.done)) (.done)) (.done))))))))))]} Tryz.func168 (hvc:=?_)),
 (fun q7 q2 q3 q4 q6 q0 q5 q1=>Zm VX (Zg q7 (Zg q2 (Zg q3 (Zg q4 (Zg q6 (Zg q0 (Zg q5 (Zg q1 Zu)))))))) mixed {draws:=[(5,[0,1,3,0,0,16,56,120,248,0,512,2047,4095,8191],.op 0 (.op 1 (.op 2 (.op 3 (.op 4 (.op 5 (.op 6 (.op 7 (.op 8 (.op 9 (.op 10 (.op 11 (.op 12 (.alt 13 (.done) (.done))))))))))))))),(13,[0,1,0,0,8,28,60,0,128,511],.op 0 (.op 1 (.op 2 (.op 3 (.op 4 (.op 5 (.op 6 (.op 7 (.op 8 (.alt 9 (.done) (.done))))))))))),(16,[0,1,0,4,0,16,48,127,255],.op 0 (.op 1 (.op 2 (.op 3 (.op 4 (.op 5 (.alt 6 (.op 7 (.alt 8 (.done) (.done))) (.done))))))))]} Tryz.func94 (hvc:=?_)),
 (fun q1 q2 q0=>Zm VX (Zg q1 (Zg q2 (Zg q0 Zu))) mixed {loops:=[(0,[.reg 7 (.own (.ol 62 (ZoH))),.reg 9 (.dat Iq),.cell 0 0 (.sl (.int .u8)),.cell 0 1 Iq,.cell 0 2 Iq,.cell 3 0 (.sl (Zin)),.cell 3 1 (.sl (ZdO)),.cell 3 2 (.sl (.str)),.cell 3 3 (.sl (ZkZ)),.cell 3 4 (.sl (ZjY))])]} Tryz.func88 (hvc:=?_)),
 (fun q3 q4 q1 q0 q5 q2=>Zm Zn3 (Zg q3 (Zg q4 (Zg q1 (Zg q0 (Zg q5 (Zg q2 Zu)))))) mixed {draws:=[(7,[0,1,0,4,12,0,60,124,0,256,768,0,3840,7936,16128,32512,65280,131071],.op 0 (.op 1 (.op 2 (.op 3 (.op 5 (.op 8 (.op 9 (.op 10 (.op 11 (.op 12 (.op 13 (.op 14 (.op 15 (.op 16 (.alt 4 (.op 6 (.op 7 (.alt 17 (.done) (.done)))) (.done)))))))))))))))),(8,[0,0,2,7,15,0,0,96,255,511],.op 0 (.op 1 (.op 2 (.op 5 (.op 6 (.alt 3 (.alt 4 (.alt 7 (.alt 8 (.op 9 (.done)) (.done)) (.done)) (.alt 7 (.alt 4 (.alt 8 (.op 9 (.done)) (.done)) (.done)) (.done))) (.alt 7 (.alt 3 (.alt 4 (.alt 8 (.op 9 (.done)) (.done)) (.done)) (.done)) (.done)))))))),(9,[0,1,3,0,15,0,32,96,0,480,0,1024,3072,8191,0,32767],.op 0 (.op 1 (.op 2 (.op 3 (.op 5 (.op 6 (.op 7 (.op 8 (.op 10 (.op 11 (.op 12 (.alt 4 (.alt 9 (.op 13 (.alt 14 (.alt 15 (.done) (.done)) (.done))) (.alt 14 (.alt 9 (.op 13 (.alt 15 (.done) (.done))) (.done)) (.done))) (.alt 9 (.alt 4 (.op 13 (.alt 14 (.alt 15 (.done) (.done)) (.done))) (.alt 14 (.alt 4 (.op 13 (.alt 15 (.done) (.done))) (.done)) (.done))) (.alt 14 (.alt 4 (.alt 9 (.op 13 (.alt 15 (.done) (.done))) (.done)) (.alt 9 (.alt 4 (.op 13 (.alt 15 (.done) (.done))) (.done)) (.done))) (.done))))))))))))))),(10,[0,1,0,0,8,0,56,127,0,511,1023],.op 0 (.op 1 (.op 2 (.op 3 (.op 4 (.op 5 (.op 8 (.alt 6 (.op 7 (.alt 9 (.alt 10 (.done) (.done)) (.done))) (.done)))))))))]} Tryz.func172 (hvc:=?_))⟩
 all_goals
  intro a
  repeat rcases a with ⟨_,a⟩
  rintro K ⟨r,h,hK⟩
  repeat'
    conv=>whnf
    first
    | with_reducible refine ZoK ?_
    | with_reducible refine ZnK (by assumption) (by assumption) (by assumption) ?_
    | with_reducible refine Zh (by assumption) ?_
    | with_reducible refine ZnS (by assumption) ?_
    | (with_reducible refine shD ?_);first | refine ZG h (fun h=>?_) (fun h=>?_) | refine ZcV h (fun h=>?_) (fun h=>?_)
    | (with_reducible refine ZoO ?_);first | refine Zj4 ?_ | refine Yc ?_
    | (with_reducible refine Zo6 ?_);first | refine Qn h (fun h=>?_) (fun h=>?_) | refine Zmk h (fun h=>?_) (fun h=>?_)
    | (with_reducible refine ZoN ?_);(refine ⟨fun hd=>?_,?_⟩)<;>try subst hd
    | (with_reducible refine Zo8 ?_);first | with_reducible refine Ze h (fun x hb h=>?_) | refine ZnS (by assumption) ?_ | with_reducible refine pG h (fun hp h=>?_) | with_reducible refine pA h (fun x ha hb hx h=>?_) | with_reducible refine pB h (fun x hb h=>?_) | refine Ze h (fun x hb h=>?_)
    | (with_reducible refine Zo5 ?_);first | with_reducible refine vAt h (fun x ha hb hx h=>?_) | refine ZnK (by assumption) (by assumption) (by assumption) ?_ | with_reducible refine pG h (fun hp h=>?_) | with_reducible refine pA h (fun x ha hb hx h=>?_) | with_reducible refine pB h (fun x hb h=>?_) | refine vAt h (fun x ha hb hx h=>?_)
    | (with_reducible refine ZoM ?_);first | with_reducible refine ZoU h (fun x hb h=>?_) | refine Zh (by assumption) ?_ | with_reducible refine pG h (fun hp h=>?_) | with_reducible refine pA h (fun x ha hb hx h=>?_) | with_reducible refine pB h (fun x hb h=>?_) | refine ZoU h (fun x hb h=>?_)
    | with_reducible refine Zo7 ?_
    | (with_reducible refine Zot ?_);refine ZoC h hK ?_;clear h hK;intro I μ v r h hK;(repeat rcases v with ⟨_,v⟩);(try dsimp only at h)
    | with_reducible refine ⟨by assumption,?_⟩
    | with_reducible refine orL ?_
    | with_reducible refine .inr ?_
    | (with_reducible refine ZoP ?_);first | refine ⟨?_,True.intro⟩ | refine ⟨?_,?_⟩
    | refine ⟨by kernel_rfl,?_⟩
    | refine ⟨by decide,?_⟩
    | with_reducible refine Yk h (fun hp h=>?_)
    | intro fp
    | exact trivial
    | with_reducible exact ZoJ h
    | (refine pS h (fun e=>?_));subst e;(repeat (first | exact hK | exact ⟨⟨rfl,rfl⟩,hK.1 _ rfl⟩ | (refine pR hK (fun e hK=>?_));subst e));done
    | refine Yk h (fun hp h=>?_)
    | refine ⟨by assumption,?_⟩
    | with_reducible refine pG h (fun hp h=>?_) | with_reducible refine pA h (fun x ha hb hx h=>?_) | with_reducible refine pB h (fun x hb h=>?_)
    | refine pG h (fun hp h=>?_)
    | fail
theorem ZDU (q0:Sq 232 ZAK) (q2:Sq 134 ZAL) (q1:Sq 233 ZA5) (q3:Sq 234 ZA6):Sq 195 c124:=by
 refine Zm VX (Zg q0 (Zg q2 (Zg q1 (Zg q3 Zu)))) mixed {loops:=[(0,[.reg 11 (.dat Iq),.cello 1003 0 (.ol 216 (ZiT))]),(2,[.reg 30 (.dat Iq),.splt 7 219 ZmF])],draws:=[(5,[0,1,3,0,8,31,31,127,255,511],.op 0 (.op 1 (.op 3 (.op 4 (.alt 2 (.op 6 (.alt 5 (.alt 7 (.op 8 (.alt 9 (.done) (.done))) (.done)) (.done))) (.done)))))),(10,[0,1,0,0,8,0,0,64,192,0,512,1984,4039,8135,16327,32767,65535,131071],.op 0 (.op 1 (.op 2 (.op 3 (.op 5 (.op 6 (.op 7 (.op 9 (.op 10 (.alt 4 (.alt 8 (.alt 11 (.op 12 (.op 13 (.alt 14 (.op 15 (.op 16 (.alt 17 (.done) (.done)))) (.done)))) (.done)) (.done)) (.alt 8 (.alt 4 (.alt 11 (.op 12 (.op 13 (.alt 14 (.op 15 (.op 16 (.alt 17 (.done) (.done)))) (.done)))) (.done)) (.alt 11 (.op 12 (.op 13 (.alt 4 (.alt 14 (.op 15 (.op 16 (.alt 17 (.done) (.done)))) (.done)) (.alt 14 (.alt 4 (.op 15 (.op 16 (.alt 17 (.done) (.done)))) (.done)) (.done))))) (.done))) (.done))))))))))))]} (fn:=Tryz.f195) Tryz.func195 (by kernel_rfl) (by kernel_rfl) ?_
 rintro ⟨l0,⟨⟩⟩ K ⟨r,h,hK⟩
 change ZqN l0=some r at h
 unfold ZqN at h
 conv=>whnf
 refine YH h ?_
 rintro I0 μ0 ⟨v0,c0,⟨⟩⟩ zs0 h hI0 hR0
 change ZpU l0 v0 c0=some zs0 at h
 unfold ZpU at h
 conv=>whnf
 intro fp1
 conv=>whnf
 refine ZG h (fun h=>?_) (fun h=>?_)
 conv=>whnf
 refine vAt h (fun x0 he2a he2b he2x h=>?_)
 conv=>whnf
 refine ⟨by kernel_rfl,?_⟩
 conv=>whnf
 refine Ze h (fun Pin0 hb3 h=>?_)
 conv=>whnf
 refine Ze h (fun int64_0 hb4 h=>?_)
 conv=>whnf
 refine ⟨trivial,?_⟩
 conv=>whnf
 refine Ze h (fun Arc0 hb5 h=>?_)
 conv=>whnf
 refine YH h ?_
 rintro I6 μ6 ⟨v1,l1,⟨⟩⟩ zs6 h hI6 hR6
 change Zqe v0 c0 x0 Pin0 int64_0 Arc0 v1 l1=some zs6 at h
 unfold Zqe at h
 conv=>whnf
 intro fp7
 conv=>whnf
 refine ZG h (fun h=>?_) (fun h=>?_)
 focus
  conv=>whnf
  refine vAt h (fun x1 he8a he8b he8x h=>?_)
  conv=>whnf
  refine Yk h (fun hp9 h=>?_)
  conv=>whnf
  refine ⟨he8a,he8b,Zh he8x ?_⟩
  conv=>whnf
  refine ⟨by kernel_rfl,?_⟩
  conv=>whnf
  obtain ⟨cloneTables0,hb10,h⟩:=Option.bind_eq_some_iff.1 h
  obtain ⟨cloneTables1,hb12,h⟩:=Option.bind_eq_some_iff.1 h
  obtain ⟨hp14,h⟩:=guardE h
  obtain ⟨x2,he15a,he15b,he15x,h⟩:=atE h
  refine ⟨?_,?_⟩
  rotate_left
  focus
   conv=>whnf
   refine ⟨_,hb10,?_⟩
   conv=>whnf
   intro fp16
   conv=>whnf
   refine ⟨?_,?_⟩
   rotate_left
   focus
    conv=>whnf
    refine ⟨_,hb12,?_⟩
    conv=>whnf
    intro fp17
    conv=>whnf
    refine ⟨he8a,he8b,Zh he8x ?_⟩
    conv=>whnf
    refine ⟨?_,?_⟩
    rotate_left
    focus
     conv=>whnf
     refine ⟨hp14,?_⟩
     conv=>whnf
     refine ⟨he15a,he15b,Zh he15x ?_⟩
     conv=>whnf
     refine ⟨he8a,he8b,Zh he8x ?_⟩
     conv=>whnf
     refine ⟨hp14,?_⟩
     conv=>whnf
     refine ⟨trivial,?_⟩
    rotate_right
    focus
     conv=>whnf
     refine ⟨hp14,?_⟩
     conv=>whnf
     refine ⟨he15a,he15b,Zh he15x ?_⟩
     conv=>whnf
     refine ⟨he8a,he8b,Zh he8x ?_⟩
     conv=>whnf
     refine ⟨hp14,?_⟩
     conv=>whnf
     refine ⟨trivial,?_⟩
   rotate_right
   focus
    conv=>whnf
    refine ⟨_,hb12,?_⟩
    conv=>whnf
    intro fp17
    conv=>whnf
    refine ⟨he8a,he8b,Zh he8x ?_⟩
    conv=>whnf
    refine ⟨hp14,?_⟩
    conv=>whnf
    refine ⟨he15a,he15b,Zh he15x ?_⟩
    conv=>whnf
    refine ⟨he8a,he8b,Zh he8x ?_⟩
    conv=>whnf
    refine ⟨hp14,?_⟩
    conv=>whnf
    refine ⟨trivial,?_⟩
  rotate_right
  focus
   conv=>whnf
   refine ⟨_,hb10,?_⟩
   conv=>whnf
   intro fp16
   conv=>whnf
   refine ⟨_,hb12,?_⟩
   conv=>whnf
   intro fp17
   conv=>whnf
   refine ⟨he8a,he8b,Zh he8x ?_⟩
   conv=>whnf
   refine ⟨hp14,?_⟩
   conv=>whnf
   refine ⟨he15a,he15b,Zh he15x ?_⟩
   conv=>whnf
   refine ⟨he8a,he8b,Zh he8x ?_⟩
   conv=>whnf
   refine ⟨hp14,?_⟩
   conv=>whnf
   refine ⟨trivial,?_⟩
  all_goals
   conv=>whnf
   cases h
   exact ⟨⟨rfl,rfl⟩,hI6 _ rfl⟩
 conv=>whnf
 refine Yk h (fun hp18 h=>?_)
 conv=>whnf
 intro fp19
 conv=>whnf
 refine Yk h (fun hp20 h=>?_)
 conv=>whnf
 intro fp21
 conv=>whnf
 cases h
 obtain rfl:=hR6 _ rfl
 exact ⟨⟨rfl,rfl⟩,hI0 _ rfl⟩
 conv=>whnf
 cases h
 obtain rfl:=hR0 _ rfl
 exact hK
theorem Zcs (rec0:Int→Option (List UInt8)) (hrec:Sq 163 (QJ rec0)):Sq 163 (QJ (ZN rec0)):=by
 refine Zm ZL (Zg hrec Zu) mixed {draws:=[(5,[0,1,3,0,8,24,56,120,248,511,1023],.op 0 (.op 1 (.op 3 (.op 4 (.op 5 (.alt 2 (.alt 6 (.alt 7 (.alt 8 (.op 9 (.op 10 (.done))) (.done)) (.done)) (.done)) (.alt 6 (.alt 2 (.alt 7 (.alt 8 (.op 9 (.op 10 (.done))) (.done)) (.done)) (.alt 7 (.alt 2 (.alt 8 (.op 9 (.op 10 (.done))) (.done)) (.alt 8 (.alt 2 (.op 9 (.op 10 (.done))) (.done)) (.done))) (.done))) (.done))))))))]} (fn:=Tryz.f163) Tryz.func163 (by kernel_rfl) (by kernel_rfl) ?_
 rintro ⟨n0,⟨⟩⟩ K ⟨r,h,hK⟩
 change ZN rec0 n0=some r at h
 unfold ZN at h
 conv=>whnf
 refine ZG h (fun h=>?_) (fun h=>?_)
 conv=>whnf
 refine Ze h (fun r0 hb0 h=>?_)
 conv=>whnf
 refine Yk h (fun hp1 h=>?_)
 conv=>whnf
 cases h
 exact hK
 conv=>whnf
 refine ZG h (fun h=>?_) (fun h=>?_)
 conv=>whnf
 cases h
 exact hK
 focus
  conv=>whnf
  refine ⟨by kernel_rfl,?_⟩
  conv=>whnf
  refine ⟨by decide,?_⟩
  conv=>whnf
  refine ⟨by decide,?_⟩
  conv=>whnf
  obtain ⟨r0,hb2,h⟩:=Option.bind_eq_some_iff.1 h
  obtain ⟨hp3,h⟩:=guardE h
  refine ⟨?_,?_⟩
  rotate_left
  focus
   conv=>whnf
   refine ⟨?_,?_⟩
   rotate_left
   focus
    conv=>whnf
    refine ⟨?_,?_⟩
    rotate_left
    focus
     conv=>whnf
     refine ⟨_,hb2,?_⟩
     conv=>whnf
     refine ⟨hp3,?_⟩
     conv=>whnf
     refine ⟨trivial,?_⟩
    rotate_right
    focus
     conv=>whnf
     refine ⟨_,hb2,?_⟩
     conv=>whnf
     refine ⟨hp3,?_⟩
     conv=>whnf
     refine ⟨trivial,?_⟩
   rotate_right
   focus
    conv=>whnf
    refine ⟨_,hb2,?_⟩
    conv=>whnf
    refine ⟨hp3,?_⟩
    conv=>whnf
    refine ⟨trivial,?_⟩
  rotate_right
  focus
   conv=>whnf
   refine ⟨_,hb2,?_⟩
   conv=>whnf
   refine ⟨hp3,?_⟩
   conv=>whnf
   refine ⟨trivial,?_⟩
  all_goals
   conv=>whnf
   cases h
   exact hK
theorem w11:Sq 163 c11:=by
 have hn:∀ n,Sq 163 (QJ (Yp n)):=by
  intro n
  induction n with
  | zero =>
  refine Zm ZL Zu mixed {draws:=[(5,[0,1,3,0,8,24,56,120,248,511,1023],.op 0 (.op 1 (.op 3 (.op 4 (.op 5 (.alt 2 (.alt 6 (.alt 7 (.alt 8 (.op 9 (.op 10 (.done))) (.done)) (.done)) (.done)) (.alt 6 (.alt 2 (.alt 7 (.alt 8 (.op 9 (.op 10 (.done))) (.done)) (.done)) (.alt 7 (.alt 2 (.alt 8 (.op 9 (.op 10 (.done))) (.done)) (.alt 8 (.alt 2 (.op 9 (.op 10 (.done))) (.done)) (.done))) (.done))) (.done))))))))]} (fn:=Tryz.f163) Tryz.func163 (by kernel_rfl) (by kernel_rfl) ?_
  rintro ⟨n0,⟨⟩⟩ K ⟨r,h,hK⟩
  cases h
  | succ n ih=>exact Zcs _ ih
 refine ⟨(hn 0).1,?_⟩
 rintro w S vs ⟨n0,⟨⟩⟩ fp K h1 h2 h3 h4 ⟨r,h,hK⟩
 obtain ⟨n,hr⟩:=ZdB h
 exact (hn n).2 w S vs _ fp K h1 h2 h3 h4 ⟨r,hr,hK⟩
end Go.Proofs.YtnnbgbgapogckaaGreatDoor
