/-
  The functions keep their contracts, if what they call does. Printed by program.
-/
import Derived.Test.YthkhedimjmkifaaGreatDoorM
import Derived.KernelRfl
namespace Go.Proofs.YthkhedimjmkifaaGreatDoor
open Go Go.Sx
set_option maxRecDepth 100000
set_option maxHeartbeats 3200000
set_option linter.unusedVariables false
set_option linter.unusedSimpArgs false
structure Ws1:Prop where
 w250:Zc Tryz.prog 159 ZuU→Zc Tryz.prog 162 ZAL
 w157:Zc Tryz.prog 343 ZFi→Zc Tryz.prog 344 c156→Zc Tryz.prog 324 c157
 w161:Zc Tryz.prog 344 c160→Zc Tryz.prog 347 ZCU
 w162:Zc Tryz.prog 346 ZAY→Zc Tryz.prog 247 c139→Zc Tryz.prog 347 ZCU→Zc Tryz.prog 325 c162
 w177:Zc Tryz.prog 159 ZuU
 w220:Zc Tryz.prog 245 c127→Zc Tryz.prog 263 ZCG→Zc Tryz.prog 262 ZE3→Zc Tryz.prog 159 ZuU→Zc Tryz.prog 254 ZA5→Zc Tryz.prog 264 ZCb→Zc Tryz.prog 242 c168→Zc Tryz.prog 180 ZzS→Zc Tryz.prog 193 ZDf
 w227:Zc Tryz.prog 304 c226→Zc Tryz.prog 268 c227
 w176:Zc Tryz.prog 239 c164→Zc Tryz.prog 240 ZCV→Zc Tryz.prog 241 ZDh→Zc Tryz.prog 242 c168→Zc Tryz.prog 243 c175→Zc Tryz.prog 177 ZEE
 w173:Zc Tryz.prog 244 c173
 w223:Zc Tryz.prog 300 c222→Zc Tryz.prog 265 ZD3
 w140:Zc Tryz.prog 259 ZCx
 w205:Zc Tryz.prog 245 c127→Zc Tryz.prog 258 ZEC
 w236:Zc Tryz.prog 230 c236
 w129:Zc Tryz.prog 342 ZBK
 w196:Zc Tryz.prog 254 ZA5→Zc Tryz.prog 245 c127→Zc Tryz.prog 187 c196
 w265:Zc Tryz.prog 313 ZEU→Zc Tryz.prog 279 ZDt
 w279:Zc Tryz.prog 133 ZFd→Zc Tryz.prog 64 ZCH
 w285:Zc Tryz.prog 136 ZDH
 w284:Zc Tryz.prog 135 ZDd→Zc Tryz.prog 66 ZDk
 w290:Zc Tryz.prog 19 ZDM→Zc Tryz.prog 20 ZES→Zc Tryz.prog 41 ZEh→Zc Tryz.prog 12 ZCM
 w275:Zc Tryz.prog 166 ZzO→Zc Tryz.prog 89 ZB1
 w6:Zc Tryz.prog 308 c5→Zc Tryz.prog 274 c6
 w18:Zc Tryz.prog 42 c9→Zc Tryz.prog 43 c15→Zc Tryz.prog 44 c17→Zc Tryz.prog 13 c18
 w19:Zc Tryz.prog 106 c19
 w26:Zc Tryz.prog 45 c20→Zc Tryz.prog 46 c21→Zc Tryz.prog 47 c23→Zc Tryz.prog 48 c25→Zc Tryz.prog 14 c26
 w36:Zc Tryz.prog 311 c35→Zc Tryz.prog 277 c36
 w50:Zc Tryz.prog 118 c49→Zc Tryz.prog 55 c50
 w60:Zc Tryz.prog 31 c59→Zc Tryz.prog 38 c60
 w53:Zc Tryz.prog 119 c52→Zc Tryz.prog 56 c53
 w31:Zc Tryz.prog 310 c30→Zc Tryz.prog 276 c31
 w33:Zc Tryz.prog 157 c32→Zc Tryz.prog 354 c33
 w46:Zc Tryz.prog 157 c32→Zc Tryz.prog 84 c46
 w156:Zc Tryz.prog 361 ZE6→Zc Tryz.prog 344 c156
 w209:Zc Tryz.prog 257 c208→Zc Tryz.prog 189 ZC8
 w130:Zc Tryz.prog 306 c130
 w143:Zc Tryz.prog 370 c143
 w79:Zc Tryz.prog 167 c75→Zc Tryz.prog 169 c77→Zc Tryz.prog 168 c78→Zc Tryz.prog 91 c79
 w91:Zc Tryz.prog 91 c79→Zc Tryz.prog 92 c83→Zc Tryz.prog 93 c85→Zc Tryz.prog 94 c76→Zc Tryz.prog 95 c88→Zc Tryz.prog 96 c90→Zc Tryz.prog 36 c91
 w98:Zc Tryz.prog 339 c97→Zc Tryz.prog 318 c98
 w107:Zc Tryz.prog 201 c107
 w97:Zc Tryz.prog 339 c97
 w114:Zc Tryz.prog 111 ZFb→Zc Tryz.prog 112 ZEQ→Zc Tryz.prog 113 ZA2→Zc Tryz.prog 51 ZEl
 w118:Zc Tryz.prog 169 c77→Zc Tryz.prog 228 ZBv
 w99:Zc Tryz.prog 340 c99
 w92:Zc Tryz.prog 283 c92
 w123:Zc Tryz.prog 94 c76→Zc Tryz.prog 169 c77→Zc Tryz.prog 226 ZAy→Zc Tryz.prog 113 ZA2→Zc Tryz.prog 153 ZDN
 w89:Zc Tryz.prog 176 c89
 w125:Zc Tryz.prog 79 c124→Zc Tryz.prog 37 ZEe
set_option maxHeartbeats 100000000 in
theorem ws1:Ws1:=by
 refine ⟨(fun q0=>Zf Zq (Zd q0 Zk) mixed {loops:=[(0,[.reg 16 (.dat (.int .i64)),.entm 1 (ZsE.ty) (ZsE.ety),.ent 2 (nat_lit 3) (.flat ZtB.ety)])],draws:=[(7,[0,0,2,0,8,30,0,64,0,256,960,1984,4032,0,0,16384,57344,122880,262080,524224,1048575],.op 0 (.op 1 (.op 2 (.op 3 (.op 4 (.op 5 (.op 6 (.op 7 (.op 8 (.op 9 (.op 10 (.op 11 (.op 12 (.op 13 (.op 14 (.op 15 (.op 16 (.op 17 (.op 18 (.op 19 (.alt 20 (.done) (.done))))))))))))))))))))))]} (fn:=Tryz.f162) Tryz.func162 (by kernel_rfl) (by kernel_rfl) ?_),
 (fun q1 q0=>Zf Zq (Zd q1 (Zd q0 Zk)) mixed {loops:=[(0,[.reg 8 (.dat (.int .i64))])]} (fn:=Tryz.f324) Tryz.func324 (by kernel_rfl) (by kernel_rfl) ?_),
 (fun q0=>Zf Zq (Zd q0 Zk) mixed {} (fn:=Tryz.f347) Tryz.func347 (by kernel_rfl) (by kernel_rfl) ?_),
 (fun q0 q1 q2=>Zf Zq (Zd q0 (Zd q1 (Zd q2 Zk))) mixed {loops:=[(0,[.reg 3 (.dat (.int .i64)),.reg 9 (.dat (.int .i64))])],draws:=[(10,[0,1,3,7,15,31,7,71,199,511,1023,2047,4095,8191,16383,32767,65535],.op 0 (.op 1 (.op 2 (.op 3 (.op 4 (.op 5 (.op 6 (.alt 7 (.op 8 (.op 9 (.op 10 (.op 11 (.op 12 (.op 13 (.alt 14 (.op 15 (.op 16 (.done))) (.done)))))))) (.done))))))))),(12,[0,1,3,7,15,31,63,127,255,511,1023,2047,4095,8191,16383,32767,16383,131071,262143,524287,1048575],.op 0 (.op 1 (.op 2 (.op 3 (.op 4 (.op 5 (.op 6 (.op 7 (.op 8 (.op 9 (.alt 10 (.op 11 (.op 12 (.op 13 (.op 14 (.op 16 (.alt 15 (.alt 17 (.op 18 (.op 19 (.op 20 (.done)))) (.done)) (.done))))))) (.done))))))))))))]} (fn:=Tryz.f325) Tryz.func325 (by kernel_rfl) (by kernel_rfl) ?_),
 (Zf Zq Zk mixed {loops:=[(0,[.reg 3 (.own (.ol 221 (.flat (Zkh)))),.reg 13 (.dat (.int .i64))]),(2,[.reg 3 (.own (.ol 221 (.flat (Zkh)))),.reg 21 (.dat (.int .i64))]),(4,[.reg 3 (.own (.ol 221 (.flat (Zkh)))),.reg 44 (.dat (.int .i64))])]} (fn:=Tryz.f159) Tryz.func159 (by kernel_rfl) (by kernel_rfl) ?_),
 (fun q7 q5 q6 q2 q0 q1 q3 q4=>Zf Zq (Zd q7 (Zd q5 (Zd q6 (Zd q2 (Zd q0 (Zd q1 (Zd q3 (Zd q4 Zk)))))))) mixed {draws:=[(1,[0,1,3,7,15,31,31,95,255,511,1023],.op 0 (.op 1 (.alt 2 (.op 3 (.op 4 (.op 5 (.op 6 (.alt 7 (.alt 8 (.op 9 (.op 10 (.done))) (.done)) (.done)))))) (.done)))),(3,[0,1,0,4,12,28,60,127,255],.op 0 (.op 1 (.op 2 (.op 3 (.alt 4 (.alt 5 (.op 6 (.alt 7 (.op 8 (.done)) (.done))) (.done)) (.done)))))),(7,[0,1,3,7,3,19,51,115,243,511,1023,2047],.op 0 (.op 1 (.op 2 (.op 3 (.op 4 (.op 5 (.op 6 (.alt 7 (.op 8 (.alt 9 (.op 10 (.op 11 (.done))) (.done))) (.done))))))))),(9,[0,1,3,7,3,19,63,127,255,511,1023,511,2559,511,8703,31231,63999,129535,260607,522751,1048575,2097151,4194303],.op 0 (.op 1 (.op 2 (.op 3 (.op 4 (.op 5 (.alt 6 (.op 7 (.op 8 (.op 9 (.op 10 (.op 11 (.op 12 (.op 13 (.op 14 (.op 15 (.op 16 (.op 17 (.alt 18 (.op 19 (.alt 20 (.op 21 (.op 22 (.done))) (.done))) (.done))))))))))))) (.done))))))))]} (fn:=Tryz.f193) Tryz.func193 (by kernel_rfl) (by kernel_rfl) ?_),
 (fun q0=>Zf Zq (Zd q0 Zk) mixed {} (fn:=Tryz.f268) Tryz.func268 (by kernel_rfl) (by kernel_rfl) ?_),
 (fun q4 q2 q1 q3 q0=>Zf Zq (Zd q4 (Zd q2 (Zd q1 (Zd q3 (Zd q0 Zk))))) mixed {loops:=[(0,[.reg 25 (.dat (.int .i64)),.ent 2 (nat_lit 3) (.flat ZtB.ety)]),(2,[.reg 51 (.dat (.int .i64)),.ent 2 (nat_lit 3) (.flat ZtB.ety)])]} (fn:=Tryz.f177) Tryz.func177 (by kernel_rfl) (by kernel_rfl) ?_),
 (Zf Zq Zk mixed {} (fn:=Tryz.f244) Tryz.func244 (by kernel_rfl) (by kernel_rfl) ?_),
 (fun q0=>Zf Zq (Zd q0 Zk) mixed {} (fn:=Tryz.f265) Tryz.func265 (by kernel_rfl) (by kernel_rfl) ?_),
 (Zf Zq Zk mixed {loops:=[(0,[.reg 3 (.dat (.int .i64))])],draws:=[(4,[0,0,2,7,15,0,0,96,224,511],.op 0 (.op 1 (.op 2 (.op 3 (.op 4 (.op 5 (.op 6 (.op 7 (.op 8 (.op 9 (.done)))))))))))]} (fn:=Tryz.f259) Tryz.func259 (by kernel_rfl) (by kernel_rfl) ?_),
 (fun q0=>Zf Zq (Zd q0 Zk) mixed {} (fn:=Tryz.f258) Tryz.func258 (by kernel_rfl) (by kernel_rfl) ?_),
 (Zf Zq Zk mixed {} (fn:=Tryz.f230) Tryz.func230 (by kernel_rfl) (by kernel_rfl) ?_),
 (Zf Zq Zk mixed {} (fn:=Tryz.f342) Tryz.func342 (by kernel_rfl) (by kernel_rfl) ?_),
 (fun q0 q1=>Zf Zq (Zd q0 (Zd q1 Zk)) mixed {} (fn:=Tryz.f187) Tryz.func187 (by kernel_rfl) (by kernel_rfl) ?_),
 (fun q0=>Zf Zq (Zd q0 Zk) mixed {loops:=[(0,[.reg 5 (.dat (.int .i64))])],draws:=[(6,[0,0,3,7,0,0,48,112,255,511],.op 0 (.op 1 (.op 2 (.op 3 (.op 4 (.op 5 (.op 6 (.op 7 (.alt 8 (.op 9 (.done)) (.done))))))))))]} (fn:=Tryz.f279) Tryz.func279 (by kernel_rfl) (by kernel_rfl) ?_),
 (fun q0=>Zf Zq (Zd q0 Zk) mixed {loops:=[(0,[.reg 5 (.dat (.int .i64))])],draws:=[(6,[0,0,3,7,0,0,48,112,255,511],.op 0 (.op 1 (.op 2 (.op 3 (.op 4 (.op 5 (.op 6 (.op 7 (.alt 8 (.op 9 (.done)) (.done))))))))))]} (fn:=Tryz.f64) Tryz.func64 (by kernel_rfl) (by kernel_rfl) ?_),
 (Zf Zq Zk mixed {} (fn:=Tryz.f136) Tryz.func136 (by kernel_rfl) (by kernel_rfl) ?_),
 (fun q0=>Zf Zq (Zd q0 Zk) mixed {loops:=[(0,[.reg 5 (.dat (.int .i64))])],draws:=[(6,[0,0,3,7,0,0,48,112,255,511],.op 0 (.op 1 (.op 2 (.op 3 (.op 4 (.op 5 (.op 6 (.op 7 (.alt 8 (.op 9 (.done)) (.done))))))))))]} (fn:=Tryz.f66) Tryz.func66 (by kernel_rfl) (by kernel_rfl) ?_),
 (fun q0 q1 q2=>Zf Zq (Zd q0 (Zd q1 (Zd q2 Zk))) mixed {} (fn:=Tryz.f12) Tryz.func12 (by kernel_rfl) (by kernel_rfl) ?_),
 (fun q0=>Zf Zq (Zd q0 Zk) mixed {} (fn:=Tryz.f89) Tryz.func89 (by kernel_rfl) (by kernel_rfl) ?_),
 (fun q0=>Zf Zq (Zd q0 Zk) mixed {loops:=[(0,[.reg 1 (.dat (.int .i64)),.reg 5 (.dat (.int .i64))])]} (fn:=Tryz.f274) Tryz.func274 (by kernel_rfl) (by kernel_rfl) ?_),
 (fun q0 q1 q2=>Zf Zq (Zd q0 (Zd q1 (Zd q2 Zk))) mixed {} (fn:=Tryz.f13) Tryz.func13 (by kernel_rfl) (by kernel_rfl) ?_),
 (Zf Zq Zk mixed {} (fn:=Tryz.f106) Tryz.func106 (by kernel_rfl) (by kernel_rfl) ?_),
 (fun q3 q1 q0 q2=>Zf Zq (Zd q3 (Zd q1 (Zd q0 (Zd q2 Zk)))) mixed {} (fn:=Tryz.f14) Tryz.func14 (by kernel_rfl) (by kernel_rfl) ?_),
 (fun q0=>Zf Xa (Zd q0 Zk) mixed {loops:=[(0,[.reg 4 (.dat (.int .i64)),.ent 0 (nat_lit 289) Zxz])]} (fn:=Tryz.f277) Tryz.func277 (by kernel_rfl) (by kernel_rfl) ?_),
 (fun q0=>Zf Zq (Zd q0 Zk) mixed {loops:=[(0,[.reg 4 (.dat (.int .i64)),.ent 0 (nat_lit 150) (.flat ZBx.ety)])]} (fn:=Tryz.f55) Tryz.func55 (by kernel_rfl) (by kernel_rfl) ?_),
 (fun q0=>Zf Xa (Zd q0 Zk) mixed {loops:=[(0,[.reg 4 (.dat (.int .i64)),.ent 0 (nat_lit 88) Zo8])]} (fn:=Tryz.f38) Tryz.func38 (by kernel_rfl) (by kernel_rfl) ?_),
 (fun q0=>Zf Zq (Zd q0 Zk) mixed {loops:=[(0,[.reg 4 (.dat (.int .i64)),.ent 0 (nat_lit 187) (.flat ZAT.ety)])]} (fn:=Tryz.f56) Tryz.func56 (by kernel_rfl) (by kernel_rfl) ?_),
 (fun q0=>Zf Zq (Zd q0 Zk) mixed {loops:=[(0,[.reg 4 (.dat (.int .i64)),.ent 0 (nat_lit 285) (.flat Zxe.ety)])]} (fn:=Tryz.f276) Tryz.func276 (by kernel_rfl) (by kernel_rfl) ?_),
 (fun q0=>Zf Zq (Zd q0 Zk) mixed {} (fn:=Tryz.f354) Tryz.func354 (by kernel_rfl) (by kernel_rfl) ?_),
 (fun q0=>Zf Zq (Zd q0 Zk) mixed {} (fn:=Tryz.f84) Tryz.func84 (by kernel_rfl) (by kernel_rfl) ?_),
 (fun q0=>Zf Zq (Zd q0 Zk) mixed {} (fn:=Tryz.f344) Tryz.func344 (by kernel_rfl) (by kernel_rfl) ?_),
 (fun q0=>Zf Zq (Zd q0 Zk) mixed {} (fn:=Tryz.f189) Tryz.func189 (by kernel_rfl) (by kernel_rfl) ?_),
 (Zf Zq Zk mixed {loops:=[(0,[.reg 8 (.dat (.int .i64))])]} (fn:=Tryz.f306) Tryz.func306 (by kernel_rfl) (by kernel_rfl) ?_),
 (Zf Zq Zk mixed {loops:=[(0,[.reg 3 (.dat (.int .i64)),.reg 4 (.dat (.int .i64))])]} (fn:=Tryz.f370) Tryz.func370 (by kernel_rfl) (by kernel_rfl) ?_),
 (fun q0 q1 q2=>Zf Zq (Zd q0 (Zd q1 (Zd q2 Zk))) mixed {loops:=[(0,[.reg 3 (.dat (.int .i64))])],draws:=[(6,[0,1,0,7,15,0,32,0,224,480,1023,2047],.op 0 (.op 1 (.op 2 (.op 3 (.op 4 (.op 5 (.op 6 (.op 7 (.alt 8 (.op 9 (.alt 10 (.op 11 (.done)) (.done))) (.done))))))))))]} (fn:=Tryz.f91) Tryz.func91 (by kernel_rfl) (by kernel_rfl) ?_),
 (fun q5 q4 q2 q3 q1 q0=>Zf Zq (Zd q5 (Zd q4 (Zd q2 (Zd q3 (Zd q1 (Zd q0 Zk)))))) mixed {loops:=[(0,[.reg 5 (.dat (.int .i64))]),(2,[.reg 6 (.dat (.int .i64))])],draws:=[(6,[0,1,0,7,15,31,0,64,192,448,1023],.op 0 (.op 1 (.op 2 (.op 3 (.op 4 (.op 5 (.op 6 (.op 7 (.alt 8 (.op 9 (.op 10 (.done))) (.done)))))))))),(11,[0,0,2,0,14,30,63,127],.op 0 (.op 1 (.op 2 (.op 3 (.op 4 (.op 5 (.alt 6 (.op 7 (.done)) (.done))))))))]} (fn:=Tryz.f36) Tryz.func36 (by kernel_rfl) (by kernel_rfl) ?_),
 (fun q0=>Zf Zq (Zd q0 Zk) mixed {} (fn:=Tryz.f318) Tryz.func318 (by kernel_rfl) (by kernel_rfl) ?_),
 (Zf Zq Zk mixed {} (fn:=Tryz.f201) Tryz.func201 (by kernel_rfl) (by kernel_rfl) ?_),
 (Zf Zq Zk mixed {loops:=[(0,[.reg 5 (.dat (.int .i64))])]} (fn:=Tryz.f339) Tryz.func339 (by kernel_rfl) (by kernel_rfl) ?_),
 (fun q0 q2 q1=>Zf Xa (Zd q0 (Zd q2 (Zd q1 Zk))) mixed {loops:=[(0,[.reg 4 (.dat (.int .i64)),.cello 1003 4 (.ol 86 (Zl3))])],draws:=[(1,[0,1,3,0,8,31,63,0,255],.op 0 (.op 1 (.op 3 (.op 4 (.alt 2 (.alt 5 (.op 6 (.alt 7 (.alt 8 (.done) (.done)) (.done))) (.alt 7 (.alt 5 (.op 6 (.alt 8 (.done) (.done))) (.done)) (.done))) (.alt 7 (.alt 2 (.alt 5 (.op 6 (.alt 8 (.done) (.done))) (.done)) (.done)) (.done))))))),(5,[0,1,0,4,0,28,60,124,252,511,1023,2047],.op 0 (.op 1 (.op 2 (.op 3 (.op 4 (.op 5 (.op 6 (.alt 7 (.alt 8 (.alt 9 (.op 10 (.alt 11 (.done) (.done))) (.done)) (.done)) (.done)))))))))]} (fn:=Tryz.f51) Tryz.func51 (by kernel_rfl) (by kernel_rfl) ?_),
 (fun q0=>Zf Xa (Zd q0 Zk) mixed {loops:=[(0,[.reg 5 (.dat (.int .i64)),.ent 4 (nat_lit 86) (Dp.pair (Dp.ol (2:Go.TypeId) (Dp.flat (Ty.int IntKind.i64))) (Dp.pair (Dp.ol (2:Go.TypeId) (Dp.flat (Ty.int IntKind.i64))) (Dp.pair (Dp.ol (2:Go.TypeId) (Dp.flat (Ty.int IntKind.i64))) (Dp.pair (Dp.ol (2:Go.TypeId) (Dp.flat (Ty.int IntKind.i64))) (Dp.flat Ty.unit)))))]),(2,[.reg 6 (.own (.ol 2 (.flat (.int .i64)))),.reg 8 (.dat (.int .i64))])]} (fn:=Tryz.f228) Tryz.func228 (by kernel_rfl) (by kernel_rfl) ?_),
 (Zf Zq Zk mixed {} (fn:=Tryz.f340) Tryz.func340 (by kernel_rfl) (by kernel_rfl) ?_),
 (Zf Zq Zk mixed {} (fn:=Tryz.f283) Tryz.func283 (by kernel_rfl) (by kernel_rfl) ?_),
 (fun q1 q2 q3 q0=>Zf Zq (Zd q1 (Zd q2 (Zd q3 (Zd q0 Zk)))) mixed {draws:=[(4,[0,1,0,4,12,0,0,64,224,480,992,2044,4092,8188,16383,32767],.op 0 (.op 1 (.op 2 (.op 3 (.op 4 (.op 5 (.op 6 (.op 7 (.op 8 (.op 9 (.op 10 (.op 11 (.op 12 (.op 13 (.op 14 (.alt 15 (.done) (.done))))))))))))))))),(14,[0,1,0,0,8,28,60,124,0,256,0,1024,3840,7936,16383,32767],.op 0 (.op 1 (.op 2 (.op 3 (.op 4 (.op 5 (.op 6 (.op 7 (.op 8 (.op 10 (.op 11 (.alt 9 (.op 12 (.op 13 (.op 14 (.alt 15 (.done) (.done))))) (.done))))))))))))),(15,[0,1,0,4,0,16,60,124,252,511,1023],.op 0 (.op 1 (.op 2 (.op 3 (.op 4 (.op 5 (.op 6 (.op 7 (.alt 8 (.op 9 (.alt 10 (.done) (.done))) (.done))))))))))]} (fn:=Tryz.f153) Tryz.func153 (by kernel_rfl) (by kernel_rfl) ?_),
 (Zf Zq Zk mixed {} (fn:=Tryz.f176) Tryz.func176 (by kernel_rfl) (by kernel_rfl) ?_),
 (fun q0=>Zf Zq (Zd q0 Zk) mixed {loops:=[(0,[.reg 7 (.dat (.int .i64)),.cell 1003 0 (.sl (QL)),.cell 1003 1 (.sl (Yq)),.cell 1003 2 (.sl (.str)),.cell 1003 3 (.sl (Zcd)),.cell 1003 4 (.sl (Vv)),.cell 1004 0 (.sl (XF)),.cell 1004 1 (.sl (Yg)),.cell 1004 2 (.sl (Yg)),.cell 1004 3 (.sl (Yn)),.cell 1004 4 (.sl (Xf))])],draws:=[(4,[0,0,0,0,12,28,63,127,255,255,255,255,0,0,0,29183,62463,129023,262143],.op 0 (.op 1 (.op 2 (.op 3 (.op 4 (.op 5 (.alt 6 (.op 7 (.op 8 (.op 9 (.op 10 (.op 11 (.alt 12 (.alt 13 (.alt 14 (.alt 15 (.alt 16 (.alt 17 (.op 18 (.done)) (.done)) (.done)) (.done)) (.done)) (.alt 14 (.alt 13 (.alt 15 (.alt 16 (.alt 17 (.op 18 (.done)) (.done)) (.done)) (.done)) (.done)) (.done))) (.alt 13 (.alt 12 (.alt 14 (.alt 15 (.alt 16 (.alt 17 (.op 18 (.done)) (.done)) (.done)) (.done)) (.done)) (.alt 14 (.alt 12 (.alt 15 (.alt 16 (.alt 17 (.op 18 (.done)) (.done)) (.done)) (.done)) (.done)) (.done))) (.alt 14 (.alt 12 (.alt 13 (.alt 15 (.alt 16 (.alt 17 (.op 18 (.done)) (.done)) (.done)) (.done)) (.done)) (.alt 13 (.alt 12 (.alt 15 (.alt 16 (.alt 17 (.op 18 (.done)) (.done)) (.done)) (.done)) (.done)) (.done))) (.done))))))))) (.alt 12 (.alt 6 (.op 7 (.op 8 (.op 9 (.op 10 (.op 11 (.alt 13 (.alt 14 (.alt 15 (.alt 16 (.alt 17 (.op 18 (.done)) (.done)) (.done)) (.done)) (.done)) (.alt 14 (.alt 13 (.alt 15 (.alt 16 (.alt 17 (.op 18 (.done)) (.done)) (.done)) (.done)) (.done)) (.done)))))))) (.alt 13 (.alt 6 (.op 7 (.op 8 (.op 9 (.op 10 (.op 11 (.alt 14 (.alt 15 (.alt 16 (.alt 17 (.op 18 (.done)) (.done)) (.done)) (.done)) (.done))))))) (.alt 14 (.alt 6 (.op 7 (.op 8 (.op 9 (.op 10 (.op 11 (.alt 15 (.alt 16 (.alt 17 (.op 18 (.done)) (.done)) (.done)) (.done))))))) (.done)) (.done))) (.alt 14 (.alt 6 (.op 7 (.op 8 (.op 9 (.op 10 (.op 11 (.alt 13 (.alt 15 (.alt 16 (.alt 17 (.op 18 (.done)) (.done)) (.done)) (.done)) (.done))))))) (.alt 13 (.alt 6 (.op 7 (.op 8 (.op 9 (.op 10 (.op 11 (.alt 15 (.alt 16 (.alt 17 (.op 18 (.done)) (.done)) (.done)) (.done))))))) (.done)) (.done))) (.done)))) (.alt 13 (.alt 6 (.op 7 (.op 8 (.op 9 (.op 10 (.op 11 (.alt 12 (.alt 14 (.alt 15 (.alt 16 (.alt 17 (.op 18 (.done)) (.done)) (.done)) (.done)) (.done)) (.alt 14 (.alt 12 (.alt 15 (.alt 16 (.alt 17 (.op 18 (.done)) (.done)) (.done)) (.done)) (.done)) (.done)))))))) (.alt 12 (.alt 6 (.op 7 (.op 8 (.op 9 (.op 10 (.op 11 (.alt 14 (.alt 15 (.alt 16 (.alt 17 (.op 18 (.done)) (.done)) (.done)) (.done)) (.done))))))) (.alt 14 (.alt 6 (.op 7 (.op 8 (.op 9 (.op 10 (.op 11 (.alt 15 (.alt 16 (.alt 17 (.op 18 (.done)) (.done)) (.done)) (.done))))))) (.done)) (.done))) (.alt 14 (.alt 6 (.op 7 (.op 8 (.op 9 (.op 10 (.op 11 (.alt 12 (.alt 15 (.alt 16 (.alt 17 (.op 18 (.done)) (.done)) (.done)) (.done)) (.done))))))) (.alt 12 (.alt 6 (.op 7 (.op 8 (.op 9 (.op 10 (.op 11 (.alt 15 (.alt 16 (.alt 17 (.op 18 (.done)) (.done)) (.done)) (.done))))))) (.done)) (.done))) (.done)))) (.alt 14 (.alt 6 (.op 7 (.op 8 (.op 9 (.op 10 (.op 11 (.alt 12 (.alt 13 (.alt 15 (.alt 16 (.alt 17 (.op 18 (.done)) (.done)) (.done)) (.done)) (.done)) (.alt 13 (.alt 12 (.alt 15 (.alt 16 (.alt 17 (.op 18 (.done)) (.done)) (.done)) (.done)) (.done)) (.done)))))))) (.alt 12 (.alt 6 (.op 7 (.op 8 (.op 9 (.op 10 (.op 11 (.alt 13 (.alt 15 (.alt 16 (.alt 17 (.op 18 (.done)) (.done)) (.done)) (.done)) (.done))))))) (.alt 13 (.alt 6 (.op 7 (.op 8 (.op 9 (.op 10 (.op 11 (.alt 15 (.alt 16 (.alt 17 (.op 18 (.done)) (.done)) (.done)) (.done))))))) (.done)) (.done))) (.alt 13 (.alt 6 (.op 7 (.op 8 (.op 9 (.op 10 (.op 11 (.alt 12 (.alt 15 (.alt 16 (.alt 17 (.op 18 (.done)) (.done)) (.done)) (.done)) (.done))))))) (.alt 12 (.alt 6 (.op 7 (.op 8 (.op 9 (.op 10 (.op 11 (.alt 15 (.alt 16 (.alt 17 (.op 18 (.done)) (.done)) (.done)) (.done))))))) (.done)) (.done))) (.done)))) (.done)))))))))))]} (fn:=Tryz.f37) Tryz.func37 (by kernel_rfl) (by kernel_rfl) ?_)⟩
 all_goals
  intro a
  repeat rcases a with ⟨_,a⟩
  rintro K ⟨r,h,hK⟩
  repeat'
    conv=>whnf
    first
    | with_reducible refine ZvK ?_
    | with_reducible refine ZeS (by assumption) (by assumption) (by assumption) ?_
    | with_reducible refine QO (by assumption) ?_
    | with_reducible refine ZeX (by assumption) ?_
    | (with_reducible refine shD ?_);first | refine ZsV h (fun h=>?_) (fun h=>?_) | refine Zvc h (fun h=>?_) (fun h=>?_)
    | (with_reducible refine Zvw ?_);first | refine Zzx ?_ | refine Zs3 ?_
    | (with_reducible refine ZAC ?_);first | refine ZuI h (fun h=>?_) (fun h=>?_) | refine Zvv h (fun h=>?_) (fun h=>?_)
    | (with_reducible refine Zva ?_);(refine ⟨fun hd=>?_,?_⟩)<;>try subst hd
    | (with_reducible refine ZAt ?_);first | with_reducible refine Zc5 h (fun x hb h=>?_) | refine ZeX (by assumption) ?_ | with_reducible refine pG h (fun hp h=>?_) | with_reducible refine pA h (fun x ha hb hx h=>?_) | with_reducible refine pB h (fun x hb h=>?_) | refine Zc5 h (fun x hb h=>?_)
    | (with_reducible refine ZAA ?_);first | with_reducible refine vAt h (fun x ha hb hx h=>?_) | refine ZeS (by assumption) (by assumption) (by assumption) ?_ | with_reducible refine pG h (fun hp h=>?_) | with_reducible refine pA h (fun x ha hb hx h=>?_) | with_reducible refine pB h (fun x hb h=>?_) | refine vAt h (fun x ha hb hx h=>?_)
    | (with_reducible refine ZvL ?_);first | with_reducible refine Zok h (fun x hb h=>?_) | refine QO (by assumption) ?_ | with_reducible refine pG h (fun hp h=>?_) | with_reducible refine pA h (fun x ha hb hx h=>?_) | with_reducible refine pB h (fun x hb h=>?_) | refine Zok h (fun x hb h=>?_)
    | with_reducible refine ZAF ?_
    | (with_reducible refine ZqE ?_);refine ZqA h hK ?_;clear h hK;intro I μ v r h hK;(repeat rcases v with ⟨_,v⟩);(try dsimp only at h)
    | with_reducible refine ⟨by assumption,?_⟩
    | with_reducible refine orL ?_
    | with_reducible refine .inr ?_
    | (with_reducible refine ZvB ?_);first | refine ⟨?_,True.intro⟩ | refine ⟨?_,?_⟩
    | refine ⟨by kernel_rfl,?_⟩
    | refine ⟨by decide,?_⟩
    | with_reducible refine ZpS h (fun hp h=>?_)
    | intro fp
    | exact trivial
    | with_reducible exact Zvu h
    | (refine pS h (fun e=>?_));subst e;(repeat (first | exact hK | exact ⟨⟨rfl,rfl⟩,hK.1 _ rfl⟩ | (refine pR hK (fun e hK=>?_));subst e));done
    | refine ZpS h (fun hp h=>?_)
    | refine ⟨by assumption,?_⟩
    | with_reducible refine pG h (fun hp h=>?_) | with_reducible refine pA h (fun x ha hb hx h=>?_) | with_reducible refine pB h (fun x hb h=>?_)
    | refine pG h (fun hp h=>?_)
    | fail
theorem w_laws_FnExactIsSession (q0:Zc Tryz.prog 8 c29) (q1:Zc Tryz.prog 10 c61) (q2:Zc Tryz.prog 9 ZDw) (q3:Zc Tryz.prog 11 ZET) (q4:Zc Tryz.prog 12 ZCM):Zc Tryz.prog 3 Zc6:=by
 refine Zf Zq (Zd q0 (Zd q1 (Zd q2 (Zd q3 (Zd q4 Zk))))) mixed {draws:=[(10,[0,0,2,7,15],.op 0 (.op 1 (.alt 2 (.alt 3 (.op 4 (.done)) (.done)) (.done))))]} (fn:=Tryz.f3) Tryz.func3 (by kernel_rfl) (by kernel_rfl) ?_
 rintro ⟨aS0,⟨⟩⟩ K ⟨r,h,hK⟩
 change QK aS0=some r at h
 unfold QK at h
 conv=>whnf
 refine Zc5 h (fun szSession0 hb0 h=>?_)
 conv=>whnf
 refine ZsV h (fun h=>?_) (fun h=>?_)
 conv=>whnf
 cases h
 exact hK
 conv=>whnf
 refine Zc5 h (fun toSession0 hb1 h=>?_)
 conv=>whnf
 intro fp2
 conv=>whnf
 intro fp3
 conv=>whnf
 intro fp4
 conv=>whnf
 intro fp5
 conv=>whnf
 intro fp6
 conv=>whnf
 intro fp7
 conv=>whnf
 refine Zc5 h (fun IsSession0 hb8 h=>?_)
 conv=>whnf
 refine ⟨_,hb1,?_⟩
 conv=>whnf
 intro fp9
 conv=>whnf
 intro fp10
 conv=>whnf
 intro fp11
 conv=>whnf
 intro fp12
 conv=>whnf
 intro fp13
 conv=>whnf
 intro fp14
 conv=>whnf
 refine Zc5 h (fun IsSession1 hb15 h=>?_)
 conv=>whnf
 refine Zs3 ?_
 refine ZuI h (fun h=>?_) (fun h=>?_)
 conv=>whnf
 refine ⟨by kernel_rfl,?_⟩
 conv=>whnf
 refine ⟨_,hb1,?_⟩
 conv=>whnf
 intro fp16
 conv=>whnf
 intro fp17
 conv=>whnf
 intro fp18
 conv=>whnf
 intro fp19
 conv=>whnf
 intro fp20
 conv=>whnf
 intro fp21
 conv=>whnf
 refine Zc5 h (fun eqSession0 hb22 h=>?_)
 conv=>whnf
 refine ⟨trivial,?_⟩
 conv=>whnf
 refine Zs3 ?_
 refine ZuI h (fun h=>?_) (fun h=>?_)
 conv=>whnf
 cases h
 exact hK
 conv=>whnf
 cases h
 exact hK
 conv=>whnf
 cases h
 exact hK
end Go.Proofs.YthkhedimjmkifaaGreatDoor
